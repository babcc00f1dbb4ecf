/- An evaluator for the model: part Z. -/
import Derived.Test.YtnbnoacadhoimaaGreatDoorAxY
import Derived.BigFrame
set_option linter.unusedSimpArgs false
set_option linter.unusedVariables false
set_option maxRecDepth 100000
set_option maxHeartbeats 8000000
namespace Go.Proofs.YtnbnoacadhoimaaGreatDoor.Ax
open Go Go.RowKit
set_option linter.unusedSimpArgs false
set_option linter.unusedVariables false
section
variable {P : Program} {w : World} {ι : Emb} {o : Oper} {tm : Tm} {h h' : Hp} {v : AV} {c : Call}
theorem bi_opr {b : Builtin} {a : Act} (hop : o.op = .call c) (hb : c.callee = .builtin b) (ho : Opr ι tm a o) : ∀ x ∈ c.args.toList, VR ι (opd tm x) (a.eval x) := fun x hx => ho x (by
  simp only [hop, Op.operands, Call.operands, hb]
  simpa using hx)
theorem args_rel {a : Act} {xs : List Operand} (ho : ∀ x ∈ xs, VR ι (opd tm x) (a.eval x)) : VRs ι (mapL (opd tm) xs) (xs.map a.eval) := by
  rw [mapL_eq]
  refine (VRs.iff _ _).2 ⟨by simp, fun j p q hp hq => ?_⟩
  simp only [List.getElem?_map] at hp hq
  cases hj : xs[j]? with
  | none => rw [hj] at hp; cases hp
  | some x =>
    rw [hj] at hp hq
    have h1 := Option.some.inj hp
    have h2 := Option.some.inj hq
    subst h1; subst h2
    exact ho x (List.mem_of_getElem? hj)
theorem list1 {α : Type} {xs : List α} {f : α → AV} {x : AV} (e : mapL f xs = [x]) : ∃ y, xs = [y] ∧ f y = x := by
  rw [mapL_eq] at e
  match xs, e with
  | [y], e => exact ⟨y, rfl, by simpa using e⟩
theorem list2 {α : Type} {xs : List α} {f : α → AV} {x y : AV} (e : mapL f xs = [x, y]) : ∃ p q, xs = [p, q] ∧ f p = x ∧ f q = y := by
  rw [mapL_eq] at e
  match xs, e with
  | [p, q], e => simp at e; exact ⟨p, q, rfl, e.1, e.2⟩
theorem arr_of_list {α : Type} {xs : Array α} {l : List α} (e : xs.toList = l) : xs = l.toArray := by rw [← e]
theorem bLen_ok {x : AV} {t : TypeId} {ts : List TypeId} (hop : o.op = .call c) (hb : c.callee = .builtin .len) (ha : mapL (opd tm) c.args.toList = [x]) (ht : c.argTypes.toList = t :: ts) (e : bLen x (P.underlying t) h = .val v h') : OpOk P o tm h h' v [] [] := by
  obtain ⟨y, hy, rfl⟩ := list1 ha
  have hargs := arr_of_list hy
  have htys := arr_of_list ht
  have run : ∀ (a : Act) (w : World), (execOp a.eval o).run P w = ((Builtin.len_ (t :: ts).toArray o.type #[a.eval y]).run P w).andThen fun v w => .ok (.value v) w := by
    intro a w
    simp [execOp, hop, resolve, hb, invoke, builtin, hargs, htys]
  have t0 : (t :: ts).toArray[0]? = some t := by simp
  have val : ∀ {n : Nat}, e = e → Ro.val (.int .i64 (Int.ofNat n)) h = .val v h' → (∀ (ι : Emb) (w : World) (a : Act), VR ι (opd tm y) (a.eval y) → (Builtin.len_ (t :: ts).toArray o.type #[a.eval y]).run P w = .ok (goInt (n : Int)) w) → OpOk P o tm h h' v [] [] := by
    intro n _ e2 hr
    obtain ⟨rfl, rfl⟩ := val_inj e2
    refine OpOk.pure fun ι H w a hW ho hA => ⟨.int .i64 (n : Int), ?_, VR.int.2 rfl⟩
    rw [run, hr ι w a (bi_opr hop hb ho y (by rw [hy]; simp))]
    rfl
  unfold bLen at e
  split at e
  · rename_i n el hu
    refine val rfl e fun ι w a hx => ?_
    simp [Builtin.len_, run_underlying hu]
  · rename_i hu
    split at e
    · rename_i s hp
      refine val rfl e fun ι w a hx => ?_
      rw [hp] at hx
      have hv := VR.str.1 hx
      simp [Builtin.len_, run_underlying hu, hv, data_size, lenL_eq]
    · cases e
  · rename_i el hu
    split at e
    · rename_i n hn
      refine val rfl e fun ι w a hx => ?_
      unfold lenSl at hn
      split at hn
      · rename_i id off len cap hp
        rw [hp] at hx
        obtain ⟨l, q, k, _, hv, _⟩ := VR.slc.1 hx
        have := Option.some.inj hn
        subst this
        simp [Builtin.len_, run_underlying hu, hv]
      · rename_i hp
        rw [hp] at hx
        have hv := VR.nils.1 hx
        have := Option.some.inj hn
        subst this
        simp [Builtin.len_, run_underlying hu, hv]
      · cases hn
    · cases e
  · cases e
theorem newSrc {z n : Nat} {x : AV} {u : TypeId} {new : List AV} {H : Hf} {vx : Value} (hW : WR ι H w) (hA : ∀ id ∈ idsOf x, ∀ b, h.h.get id = some b → H id = some b) (hx : VR ι x vx) (hn : lenOf x = some n) (e : newOf h z n x (P.underlying u) = some new) (hsc : allSc new = true) :
    ∃ news, VRs ι new news ∧ Src P z u vx n news w := by
  unfold newOf at e
  split at e
  · rename_i el hu
    split at e
    · rename_i id off len cap
      have := Option.some.inj (show some len = some n from hn)
      subst this
      split at e
      · rename_i cs hcs
        obtain ⟨l, y, c, hl, hv, hc, hcap⟩ := VR.slc.1 hx
        obtain ⟨vals, g1, g2, g3⟩ := slab_list (blk_cellR hW (hA id (by simp [idsOf])) hl hcs) e
        have hlc : len ≤ c := by cases cap <;> simp [capR] at hcap <;> omega
        subst hv
        refine ⟨vals, g2, Src.ofSlice w hu ⟨l.b, y, none⟩ len c vals g1 (fun j q hq => ?_) (VRs.one g2 hsc)⟩
        have hj := lt_of_some hq
        have hpos : 0 < c := by
          rcases Nat.eq_zero_or_pos len with h0 | h0
          · subst h0; rw [Nat.zero_mul] at g1; omega
          · omega
        rw [Addr.add_lit, hc hpos]
        exact g3 j q hq
      · cases e
    · cases e
  · rename_i hu
    split at e
    · rename_i s
      have := Option.some.inj (show some (lenL s) = some n from hn)
      subst this
      rw [beqN_eq] at e
      by_cases h1 : z = 1
      · subst h1
        rw [decide_eq_true rfl] at e
        have := Option.some.inj e
        subst this
        have hv := VR.str.1 hx
        subst hv
        have hs := Src.ofString (P := P) w hu ⟨⟨s⟩⟩
        rw [data_size, ← lenL_eq] at hs
        refine ⟨_, ?_, hs⟩
        rw [mapL_eq, byteCells]
        refine (VRs.iff _ _).2 ⟨by simp, fun j p q hp hq => ?_⟩
        simp only [List.getElem?_map] at hp hq
        cases hj : s[j]? with
        | none => rw [hj] at hp; cases hp
        | some b =>
          rw [hj] at hp hq
          have h1 := Option.some.inj hp
          have h2 := Option.some.inj hq
          subst h1; subst h2
          exact VR.int.2 rfl
      · rw [decide_eq_false h1] at e; cases e
    · cases e
  · cases e
theorem isSeq_eq {d : Option TypeDesc} (e : isSeq d = true) : (∃ el, d = some (.slice el)) ∨ d = some .string := by
  unfold isSeq at e
  split at e
  · exact .inl ⟨_, rfl⟩
  · exact .inr rfl
  · cases e
theorem keepS_eq {s : AV} (e : keepS s h = .val v h') : v = s ∧ h' = h := by
  unfold keepS at e
  split at e
  · obtain ⟨a, b⟩ := val_inj e; exact ⟨a.symm, b.symm⟩
  · obtain ⟨a, b⟩ := val_inj e; exact ⟨a.symm, b.symm⟩
  · cases e
/-- Nothing is appended. -/
theorem append_none {t u ty el : TypeId} {x : AV} {vx : Value} {A : Option Addr} {n k : Nat} (hu : P.underlying t = some (.slice el)) {z : Nat} (hz : szOf P el = some z) (hq : isSeq (P.underlying u) = true) (hx : VR ι x vx) (hn : lenOf x = some 0) (hk : n ≤ k) :
    (Builtin.append_ #[t, u] ty #[.slice A n k, vx]).run P w = .ok (.slice A n k) w := by
  have hl : (Builtin.lenOf vx).run P w = .ok 0 w ∧ (Builtin.firstCells z 0 vx).run P w = .ok #[] w := by
    unfold lenOf at hn
    split at hn
    · obtain ⟨l, q, c, _, hv, _⟩ := VR.slc.1 hx
      have := Option.some.inj hn
      subst this; subst hv
      exact ⟨rfl, by simp [Builtin.firstCells, loadCells, loadCellsFrom]⟩
    · have hv := VR.nils.1 hx
      subst hv
      exact ⟨rfl, by simp [Builtin.firstCells]⟩
    · rename_i s
      have hv := VR.str.1 hx
      subst hv
      have h0 := Option.some.inj hn
      rw [lenL_eq] at h0
      have hs : s = [] := List.length_eq_zero_iff.1 h0
      subst hs
      exact ⟨rfl, by simp [Builtin.firstCells]⟩
    · cases hn
  rcases isSeq_eq hq with ⟨e', hk'⟩ | hk'
  · cases A <;> simp [Builtin.append_, run_underlying hu, run_underlying hk', szOf_run hz, hl.1, hl.2, hk, storeCells]
  · cases A <;> simp [Builtin.append_, run_underlying hu, run_underlying hk', szOf_run hz, hl.1, hl.2, hk, storeCells]
end
end Go.Proofs.YtnbnoacadhoimaaGreatDoor.Ax
