/- Arguments of DryWatches: two bytes; rows within their capacity. -/
import Derived.Test.YtnbnoacadhoimaaGreatDoorCpG
import Derived.Test.YtnbnoacadhoimaaGreatDoorCu
set_option linter.unusedSimpArgs false
set_option linter.unusedVariables false
set_option maxRecDepth 100000
set_option maxHeartbeats 8000000
namespace Go.Proofs.YtnbnoacadhoimaaGreatDoor
open Go Go.ChangeShapes Go.WideShapes Go.ChangeAt Go.RowKit Go.Deep Go.Joins

section
variable {H : Type} {enc : TypeId × Value → H} {W : World} {sp : Nat → Bool} {held : Bool} {r : Reach} {b0 base : Nat} {v : Value} {d : DataW H} {ps : List MemPlace}
theorem okWide_array6 {n : Nat} {t e : TypeId} (ht : Tryz.prog.underlying t = some (.array n e)) (h : Value.okWide Tryz.prog W r b0 t v) : ∃ cs : Array Value, v = .agg cs ∧ cs.size = Tryz.prog.cellsOf t := by
  simp only [Value.okWide, ht] at h
  obtain ⟨cs, h1, h2, _⟩ := h
  exact ⟨cs, h1, h2⟩
theorem open_bytes2 (hval : Value.okWide Tryz.prog W r b0 44 v) (hd : DataW.Trod enc Tryz.prog W base sp held 44 v d ps) :
    ∃ p q : Int, v = .agg #[.int .u8 p, .int .u8 q] ∧ ps = [] ∧ (0 ≤ p ∧ p < 256) ∧ (0 ≤ q ∧ q < 256) := by
  have ht : Tryz.prog.underlying 44 = some (.array 2 5) := by kernel_rfl
  have he : Tryz.prog.underlying 5 = some (.int .u8) := by kernel_rfl
  have hc : Tryz.prog.cellsOf 44 = 2 := by kernel_rfl
  have ce : Tryz.prog.cellsOf 5 = 1 := by kernel_rfl
  obtain ⟨cs, rfl, hcs⟩ := okWide_array6 ht hval
  rw [hc] at hcs
  obtain ⟨a, b, rfl⟩ : ∃ a b, cs = #[a, b] := by
    match cs, hcs with
    | ⟨[a, b]⟩, _ => exact ⟨a, b, rfl⟩
  obtain ⟨fuel, hf⟩ := hd
  obtain ⟨xs, m, _, hx, _, hl, hi⟩ := DataW.trod_array ht hf
  rw [ce] at hi
  match xs, hl with
  | [y0, y1], _ =>
    obtain ⟨p, k0, x0, w0⟩ := DataW.trod_int he (x := y0) (hi 0 (by omega))
    obtain ⟨q, k1, x1, w1⟩ := DataW.trod_int he (x := y1) (hi 1 (by omega))
    have hp := congrArg Prod.snd hx
    rw [x0, x1] at hp
    simp [Value.cells] at k0 k1 hp
    subst k0 k1 hp
    simp [Lit.wf, IntKind.min, IntKind.max, IntKind.signed, IntKind.bits] at w0 w1
    exact ⟨p, q, rfl, rfl, by omega, by omega⟩
end
theorem open_cap {H : Type} {enc : TypeId × Value → H} {W : World} {A : Option Addr} {n c fuel : Nat} {x : DataW H × List MemPlace} (h : DataW.trod enc Tryz.prog W 0 (fun _ => true) true fuel 22 [.slice A n c] = some x) : RowCap W A n := by
  rcases Go.Deep.open_int_rows Tryz.underlying22 Tryz.underlying31 Tryz.underlying3 cellsInts6 cellsInt6 h with ⟨hcs, _⟩ | ⟨a, len, cap, A', L, C, Z, hcs, _, hl, hm, _, hrow⟩
  · simp at hcs
    obtain ⟨rfl, rfl, rfl⟩ := hcs
    intro b o e
    cases e
  · simp at hcs
    obtain ⟨rfl, rfl, rfl⟩ := hcs
    intro b o e j hj A2 m2 c2 hc
    cases e
    obtain ⟨k1, k2, _⟩ := hrow j (by omega)
    have e0 : ∀ i, (⟨b, o, none⟩ : Addr).add i = ⟨b, o + i, none⟩ := fun i => by unfold Addr.add; split <;> simp_all
    rw [e0, hc] at k1
    cases k1
    exact k2
theorem watches_walk {w : World} {A : Option Addr} {n c : Nat} {rs : List (List Int)} (hE : Env6 w) (h : Rv w A n rs) (hnc : n ≤ c) (hcp : RowCap w A n) (x : Wt) {p q : Int} (hp : 0 ≤ p ∧ p < 256) (hq : 0 ≤ q ∧ q < 256) :
    Calls Tryz.prog 4 #[.slice A n c, wtv x, .agg #[.int .u8 p, .int .u8 q]] w fun e w' => e = .returned (.bool true) ∧ Below w.heap.size w w' := by
  obtain ⟨P, rfl⟩ : ∃ P : Nat, p = (P : Int) := ⟨p.toNat, by omega⟩
  obtain ⟨Q, rfl⟩ : ∃ Q : Nat, q = (Q : Int) := ⟨q.toNat, by omega⟩
  cases hg : rowsG rs with
  | false => exact watches_out hE h hg
  | true =>
    by_cases hn : n ≤ 10
    · by_cases hk : readE rs = 0
      · cases hx : watchB x with
        | false => exact watches_odd hE h hg hn hk (.inl hx)
        | true =>
          by_cases ha : x.a ≤ 700
          · exact watches_main hE h hnc hcp hg hn hk hx ha (by omega) (by omega)
          · exact watches_odd hE h hg hn hk (.inr ⟨hx, by omega⟩)
      · exact watches_bad hE h hg hn rfl hk
    · exact watches_long hE h hg (by omega)
end Go.Proofs.YtnbnoacadhoimaaGreatDoor
