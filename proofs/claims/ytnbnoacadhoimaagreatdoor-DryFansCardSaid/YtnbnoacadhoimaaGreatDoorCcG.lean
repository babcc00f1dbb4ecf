/- What an alarm asks: a rise against earlier rows; the greatest of a few numbers. -/
import Derived.Test.YtnbnoacadhoimaaGreatDoorDaG
import Derived.Maps.AppendAt
import Derived.OwnWalk
import Derived.Sort.KeysCollected
set_option linter.unusedSimpArgs false
set_option linter.unusedVariables false
set_option maxRecDepth 100000
set_option maxHeartbeats 8000000
namespace Go.Proofs.YtnbnoacadhoimaaGreatDoor
open Go Go.RowKit

/-- A small number. -/
def Sml (z : Int) : Prop := -1000000 ≤ z ∧ z ≤ 1000000
def rix (f : List Int → Bool) : List (List Int) → Nat → Int
  | [], _ => -1
  | h :: r, i => if f h then (i : Int) else rix f r (i + 1)
theorem rix_ge (f : List Int → Bool) (l : List (List Int)) : ∀ i : Nat, decide (0 ≤ rix f l i) = l.any f := by
  induction l with
  | nil => intro i; simp [rix]
  | cons h r ih =>
    intro i
    rw [rix, List.any_cons]
    cases f h
    · simp only [Bool.false_or]; exact ih (i + 1)
    · simp
section
variable {w : World} {B A : Option Addr} {l e n c k p1 p2 p3 : Nat} {own r : Int} {zs : List Int} {rs : List (List Int)}
/-- What the comparison reads. -/
structure Rise (w : World) (p1 p2 p3 k : Nat) (own r : Int) : Prop where
  c1 : w.cell? ⟨p1, 0, none⟩ = some (.int .i64 own)
  c2 : w.cell? ⟨p2, 0, none⟩ = some (.int .i64 (k : Int))
  c3 : w.cell? ⟨p3, 1, none⟩ = some (.int .i64 r)
theorem Rise.below {W : World} (h : Rise w p1 p2 p3 k own r) (hb : Below w.heap.size w W) : Rise W p1 p2 p3 k own r := ⟨cell_on hb h.c1, cell_on hb h.c2, cell_on hb h.c3⟩
theorem rise1 {g : Bool} (hg : decide (r ≤ own - zs.getD k 0) = g) (h : Rise w p1 p2 p3 k own r) (hv : Iv w B l zs) (hk : k < l) (hs : Sml own ∧ Sml (zs.getD k 0)) :
    Calls Tryz.prog 105 #[.slice B l e, .pointer (some ⟨p1, 0, none⟩), .pointer (some ⟨p2, 0, none⟩), .pointer (some ⟨p3, 0, none⟩)] w fun x w' => x = .returned (.bool g) ∧ Below w.heap.size w w' := by
  obtain ⟨b, o, rfl, hbl, hat⟩ := hv.at_ (by omega)
  have k0 := hat k hk
  obtain ⟨h1, h2, h3⟩ := h
  obtain ⟨t, ht⟩ : ∃ t, zs.getD k 0 = t := ⟨_, rfl⟩
  rw [ht] at k0 hs hg
  have m1 : IntKind.i64.wrap (own - t) = own - t := by
    obtain ⟨⟨a1, a2⟩, a3, a4⟩ := hs
    simp [IntKind.wrap, IntKind.bits, IntKind.signed]; omega
  have z1 := World.block_lt_of_cell? w _ h1
  have z2 := World.block_lt_of_cell? w _ h2
  have z3 := World.block_lt_of_cell? w _ h3
  dsimp only at z1 z2 z3
  clear hat ht hs hv
  go_enter Tryz.func105, Tryz.ntmps105
  go_upto_region 1 with (fail)
  refine wp_region_T (fun w' => Below w.heap.size w w') [] (by kernel_rfl) ?_
  refine tb 0 (.int .i64 own) [] rfl (by kernel_rfl) pk rfl (by intros; go_simp) bq0 ?_
  simp only [ppq]
  refine tb 1 (.slice (some ⟨b, o, none⟩) l e) [] rfl (by kernel_rfl) pk rfl (by intros; go_simp) bq0 ?_
  simp only [ppq]
  refine tb 2 (.int .i64 (k : Int)) [] rfl (by kernel_rfl) pk rfl (by intros; go_simp) bq0 ?_
  simp only [ppq]
  refine tb 3 (.pointer (some ⟨b, o + k, none⟩)) [] rfl (by kernel_rfl) pk rfl (by intros; go_simp) bq0 ?_
  simp only [ppq]
  refine tb 4 (.int .i64 t) [] rfl (by kernel_rfl) pk rfl (by intros; go_simp) bq0 ?_
  simp only [ppq]
  refine tb 5 (.int .i64 (own - t)) [] rfl (by kernel_rfl) pk rfl (by intros; go_simp) bq0 ?_
  simp only [ppq]
  refine tb 6 (.pointer (some ⟨p3, 1, none⟩)) [] rfl (by kernel_rfl) pk rfl (by intros; go_simp) bq0 ?_
  simp only [ppq]
  refine tb 7 (.int .i64 r) [] rfl (by kernel_rfl) pk rfl (by intros; go_simp) bq0 ?_
  simp only [ppq]
  refine rd1 8 (by kernel_rfl) rfl (fun K hK => ?_)
  go_simp
  refine hK.out _ _ (fun _ => bi) ?_
  clear hK K
  refine rd1 9 (by kernel_rfl) rfl (fun K hK => ?_)
  go_simp
  refine hK.out _ _ (fun _ => bi) ?_
  clear hK K
  refine wpAnyT_done (by kernel_rfl) ?_ _
  go_wp2
  go_ret
  exact ⟨rfl, bi⟩
/-- Rows that have the sensor. -/
def Has (k : Nat) (rs : List (List Int)) : Prop := ∀ z ∈ rs, k < z.length ∧ Sml (z.getD k 0)
theorem rowIx_ok {R : Int} (h : Rv w A n rs) (hn : n ≤ 100000) (hq : Rise w p1 p2 p3 k own r) (hH : Has k rs) (ho : Sml own) (hr : rix (fun z => decide (r ≤ own - z.getD k 0)) rs 0 = R) :
    Calls Tryz.prog 138 #[.slice A n c, .func (.func 105) #[] #[.pointer (some ⟨p1, 0, none⟩), .pointer (some ⟨p2, 0, none⟩), .pointer (some ⟨p3, 0, none⟩)]] w fun e w' => e = .returned (.int .i64 R) ∧ Below w.heap.size w w' := by
  have H := qh h
  have HN := qh hn
  have HR := qh hr
  have HQ := qh hq
  have HH := qh hH
  have HO := qh ho
  clear h hn hr hq hH ho
  go_enter Tryz.func138, Tryz.ntmps138
  go_wp2
  go_loopw [8] (fun u wr => ∃ (i : Nat), u = .int .i64 (i : Int) ∧ i ≤ n ∧ Below w.heap.size w wr ∧ rix (fun z => decide (r ≤ own - z.getD k 0)) (rs.drop i) i = R) (fun u _ => n - (intOf u).toNat)
  case atStart => exact ⟨0, rfl, Nat.zero_le _, bi, HR.out⟩
  case round =>
    obtain ⟨i, rfl, hin, hb, hc⟩ := hrel
    have _ := bm hb
    have hnn := HN.out
    by_cases hi : i < n
    · have p0 : decide (i < n) = true := by simpa using hi
      obtain ⟨b, o, rfl, hbl, hat⟩ := (H.out.below hb).at_ (by omega)
      obtain ⟨B, l, e, k0, kv⟩ := hat i hi
      rw [drop_row (by rw [H.out.len]; exact hi)] at hc
      have hmem : rs.getD i [] ∈ rs := by
        have hil : i < rs.length := by rw [H.out.len]; exact hi
        rw [List.getD_eq_getElem?_getD, List.getElem?_eq_getElem hil]; exact List.getElem_mem hil
      have hh := HH.out _ hmem
      obtain ⟨z, hx⟩ : ∃ x, rs.getD i [] = x := ⟨_, rfl⟩
      rw [hx] at kv hc hh
      have hl := kv.len
      subst hl
      have KV := qh (And.intro kv hh)
      unfold rix at hc
      obtain ⟨g, hg⟩ : ∃ g, decide (r ≤ own - z.getD k 0) = g := ⟨_, rfl⟩
      have HF := qh (fun W (hW : Below wr.heap.size wr W) => rise1 (e := e) hg ((HQ.out.below hb).below hW) (KV.out.1.below hW) KV.out.2.1 ⟨HO.out, KV.out.2.2⟩)
      rw [hg] at hc
      clear hat hx kv hh hmem hg
      cases g
      · rw [if_neg (by simp)] at hc
        go_wp2_with (go_at_call 105; (with_reducible refine mo0 (HF.out _ bi) fun w1 hb1 hc1 hf1 _ => ?_))
        go_roundw
        case rel => exact ⟨i + 1, by simp, by omega, bi, hc⟩
        case measure => simp [intOf]; omega
      · rw [if_pos rfl] at hc
        subst hc
        go_wp2_with (go_at_call 105; (with_reducible refine mo0 (HF.out _ bi) fun w1 hb1 hc1 hf1 _ => ?_))
        go_ret
        exact ⟨rfl, bi⟩
    · have : i = n := by omega
      subst this
      have p0 : decide (i < i) = false := by simp
      rw [List.drop_eq_nil_of_le (by rw [H.out.len]; exact Nat.le_refl _)] at hc
      have hR : R = -1 := hc.symm
      subst hR
      go_wp2
      go_ret
      exact ⟨rfl, bi⟩
theorem rowAny_ok {R : Bool} (h : Rv w A n rs) (hn : n ≤ 100000) (hq : Rise w p1 p2 p3 k own r) (hH : Has k rs) (ho : Sml own) (hr : rs.any (fun z => decide (r ≤ own - z.getD k 0)) = R) :
    Calls Tryz.prog 104 #[.slice A n c, .func (.func 105) #[] #[.pointer (some ⟨p1, 0, none⟩), .pointer (some ⟨p2, 0, none⟩), .pointer (some ⟨p3, 0, none⟩)]] w fun e w' => e = .returned (.bool R) ∧ Below w.heap.size w w' := by
  have hg := rix_ge (fun z => decide (r ≤ own - z.getD k 0)) rs 0
  rw [hr] at hg
  obtain ⟨x, hx⟩ : ∃ x, rix (fun z => decide (r ≤ own - z.getD k 0)) rs 0 = x := ⟨_, rfl⟩
  rw [hx] at hg
  have HI := qh (rowIx_ok (c := c) h hn hq hH ho hx)
  clear h hn hq hH ho hr hx
  go_enter Tryz.func104, Tryz.ntmps104
  go_wp2_with (go_at_call 138; (with_reducible refine mo0 (HI.out) fun w1 hb1 hc1 hf1 _ => ?_))
  go_ret
  exact ⟨rfl, bi⟩
/-- The greatest number of a list. -/
def IsMax (zs : List Int) (m : Int) : Prop := m ∈ zs ∧ ∀ z ∈ zs, z ≤ m
theorem isMax_snoc {l : List Int} {m t : Int} (h : IsMax l m) : IsMax (l ++ [t]) (if m < t then t else m) := by
  obtain ⟨h1, h2⟩ := h
  split
  · refine ⟨by simp, fun z hz => ?_⟩
    rcases List.mem_append.1 hz with hz | hz
    · have := h2 z hz; omega
    · rw [List.mem_singleton.1 hz]; omega
  · refine ⟨List.mem_append.2 (.inl h1), fun z hz => ?_⟩
    rcases List.mem_append.1 hz with hz | hz
    · exact h2 z hz
    · rw [List.mem_singleton.1 hz]; omega
theorem take_snoc {zs : List Int} {i : Nat} {t : Int} (h : i < zs.length) (ht : zs.getD i 0 = t) : zs.take (i + 1) = zs.take i ++ [t] := by
  rw [List.take_add_one, List.getElem?_eq_getElem h]
  rw [List.getD_eq_getElem?_getD, List.getElem?_eq_getElem h] at ht
  simp at ht
  simp [ht]
theorem max_ok (h : Iv w A n zs) (h0 : 0 < n) (hn : n ≤ 100000) : Calls Tryz.prog 106 #[.slice A n c] w fun e w' => ∃ m, e = .returned (.int .i64 m) ∧ IsMax zs m ∧ Below w.heap.size w w' := by
  have H := qh h
  have HN := qh (And.intro h0 hn)
  have q0 : decide ((n : Int) < 1) = false := by rw [decide_eq_false_iff_not]; omega
  obtain ⟨b, o, rfl, hbl, hat⟩ := h.at_ h0
  have k0 := hat 0 h0
  rw [Nat.add_zero] at k0
  have hlen := h.len
  have HAT := qh (And.intro hbl hat)
  have hx0 := h0
  obtain ⟨z0, hz0⟩ : ∃ z, zs.getD 0 0 = z := ⟨_, rfl⟩
  rw [hz0] at k0
  have HZ : Hid (IsMax (zs.take 1) z0) := qh (by
    rw [take_snoc (i := 0) (by omega) hz0]
    exact ⟨by simp, fun z hz => by simp at hz; omega⟩)
  clear h h0 hn hat hz0
  go_enter Tryz.func106, Tryz.ntmps106
  go_wp2
  go_loopw [3, 4] (fun v u wr => ∃ (i : Nat) (m : Int), u = .int .i64 (i : Int) ∧ v = .int .i64 m ∧ 1 ≤ i ∧ i ≤ n ∧ Below w.heap.size w wr ∧ IsMax (zs.take i) m) (fun _ u _ => n - (intOf u).toNat)
  case atStart =>
    exact ⟨1, _, rfl, rfl, Nat.le_refl _, HN.out.1, bi, HZ.out⟩
  case round =>
    obtain ⟨i, m, rfl, rfl, h1, hin, hb, hm⟩ := hrel
    have _ := bm hb
    have hnn := HN.out
    have HM := qh hm
    clear hm
    by_cases hi : i < n
    · have p0 : decide (i < n) = true := by simpa using hi
      have HI := qh hi
      have k1 := cell_on hb (HAT.out.2 i hi)
      obtain ⟨t, ht⟩ : ∃ t, zs.getD i 0 = t := ⟨_, rfl⟩
      rw [ht] at k1
      have HM2 : Hid (IsMax (zs.take (i + 1)) (if m < t then t else m)) := qh (by
        rw [take_snoc (by rw [H.out.len]; exact hi) ht]
        exact isMax_snoc HM.out)
      clear ht
      go_wp2
      exact ⟨⟨i + 1, _, by simp, rfl, by omega, HI.out, bi, HM2.out⟩, by have := HI.out; simp [intOf]; omega⟩
    · have p0 : decide (i < n) = false := by simpa using hi
      have hm := HM.out
      rw [List.take_of_length_le (by rw [H.out.len]; omega)] at hm
      clear hi hin HM
      go_wp2
      go_ret
      exact ⟨_, rfl, hm, bi⟩
end
end Go.Proofs.YtnbnoacadhoimaaGreatDoor
namespace Go.Proofs.YtnbnoacadhoimaaGreatDoor
open Go Go.RowKit Go.Sort

def at2 (rs : List (List Int)) (t k : Nat) : Int := (rs.getD t []).getD k 0
/-- Readings without an error: m sensors. -/
structure Good (m : Nat) (rs : List (List Int)) : Prop where
  len : ∀ z ∈ rs, z.length = m
  tmp : ∀ z ∈ rs, ∀ v ∈ z, tmpB v = true
  m0 : 0 < m
  m64 : m ≤ 64
  few : rs.length ≤ 1000
theorem tmp_sml {v : Int} (h : tmpB v = true) : -600 ≤ v ∧ v ≤ 1000 := by
  simpa [tmpB] using h
theorem getD_in {α : Type} {l : List α} {i : Nat} {d : α} (h : i < l.length) : l.getD i d ∈ l := by
  rw [List.getD_eq_getElem?_getD, List.getElem?_eq_getElem h]; exact List.getElem_mem h
theorem Good.at {m : Nat} {rs : List (List Int)} (h : Good m rs) {t k : Nat} (ht : t < rs.length) (hk : k < m) : -600 ≤ at2 rs t k ∧ at2 rs t k ≤ 1000 := by
  have h1 := getD_in (d := ([] : List Int)) ht
  have h2 := h.len _ h1
  exact tmp_sml (h.tmp _ h1 _ (getD_in (by rw [h2]; exact hk)))
def hotB (x : Wt) (rs : List (List Int)) (t k : Nat) : Bool := decide (x.a < at2 rs t k)
/-- The earliest row that counts. -/
def lo (x : Wt) (t : Nat) : Nat := t - x.i.toNat
def riseB (x : Wt) (rs : List (List Int)) (t k : Nat) : Bool := ((rs.drop (lo x t)).take (t - lo x t)).any fun z => decide (x.r ≤ at2 rs t k - z.getD k 0)
/-- The neighbours. -/
def nearL (m : Nat) (rs : List (List Int)) (t k : Nat) : List Int := (if 1 ≤ k then [at2 rs t (k - 1)] else []) ++ (if k + 1 < m then [at2 rs t (k + 1)] else [])
def nearJ (m : Nat) (rs : List (List Int)) (t k j : Nat) : List Int := if j = 0 then [] else if j = 1 then (if 1 ≤ k then [at2 rs t (k - 1)] else []) else nearL m rs t k
def spotB (x : Wt) (m : Nat) (rs : List (List Int)) (t k : Nat) : Bool := !(nearL m rs t k).isEmpty && (nearL m rs t k).all fun v => decide (x.o ≤ at2 rs t k - v)
theorem cellA {w : World} {a : Addr} {v : Value} (h : w.cell? a = some v) (o : Obj) : (w.alloc o).cell? a = some v := by
  rw [World.cell?_alloc_lt _ _ _ (World.block_lt_of_cell? _ _ h)]; exact h
abbrev OwnZ (w : World) (base : Nat) (v : Value) (n : Nat) (zs : List Int) : Prop := w.ownsRow base 3 1 v n (zs.map (Value.int .i64))
theorem z_row : (Tryz.prog.info? 3).map (fun i => (i.zero, i.size, i.bytes)) = some (some (.int .i64 0), 1, 8) := by kernel_rfl
theorem zs_at {zs : List Int} {j : Nat} {u : Value} (h : (zs.map (Value.int .i64))[j]? = some u) : j < zs.length ∧ u = .int .i64 (zs.getD j 0) := by
  rw [List.getElem?_map] at h
  cases e : zs[j]? with
  | none => rw [e] at h; cases h
  | some z =>
    rw [e] at h
    have hj := (List.getElem?_eq_some_iff.1 e).1
    refine ⟨hj, ?_⟩
    rw [List.getD_eq_getElem?_getD, e]
    exact (Option.some.inj h).symm
theorem addZ (g j : Nat) : (⟨g, 0, none⟩ : Addr).add j = ⟨g, j, none⟩ := by unfold Addr.add; split <;> simp_all
theorem grownB {w w' : World} {base : Nat} {row : Option Nat} (h : w.grownBy w' row) (hb : base ≤ w.heap.size) (hr : ∀ k, row = some k → base ≤ k) : Below base w w' :=
  ⟨h.os, h.tape, h.output, h.size, fun k hk => h.block k (Nat.lt_of_lt_of_le hk hb) (fun e => by have := hr k e.symm; omega)⟩
theorem gen_z {P : Program} {o : Oper} {a : Act} {K : Act → World → Prop} {Q : Exit → Act → World → Prop} {w w' : World} {v z v' : Value} {t : TypeId} (s y : Operand)
    (ho : o.op = .call { callee := .builtin .append, args := #[s, y], argTypes := #[t, t] }) (hs : a.eval s = v) (hy : a.eval y = z)
    (hr : (Builtin.append_ #[t, t] o.type #[v, z]).run P w = .ok v' w') (hK : K (a.put o.dst v') w') : o.wp P a w K Q := by
  unfold Oper.wp execOp
  simp only [ho, resolve, invoke, builtin, Sem.run_bind, Sem.run_pure, Result.andThen_ok, List.map_toArray, List.map_cons, List.map_nil, hs, hy, hr]
  exact hK
theorem app_z {w : World} {base n b c : Nat} {v : Value} {zs : List Int} {z : Int} (h : OwnZ w base v n zs) (hn : n ≤ 100000) (hb : base ≤ w.heap.size) (h0 : w.cell? ⟨b, 0, none⟩ = some (.int .i64 z)) :
    ∃ A' c' w', (Builtin.append_ #[31, 31] 31 #[v, .slice (some ⟨b, 0, none⟩) 1 c]).run Tryz.prog w = .ok (.slice A' (n + 1) c') w' ∧ OwnZ w' base (.slice A' (n + 1) c') (n + 1) (zs ++ [z]) ∧ w.grownBy w' v.ownBlock ∧ ((Value.slice A' (n + 1) c').ownBlock = v.ownBlock ∨ (Value.slice A' (n + 1) c').ownBlock = some w.heap.size) := by
  obtain ⟨i, hi, hz0, hz1, hz2⟩ := info_parts z_row
  obtain ⟨v', w', hr, k1, k2, _, k3⟩ := run_append_own_at (P := Tryz.prog) w base 31 31 3 i _ 1 8 Tryz.underlying31 hi hz0 hz1 hz2 rfl (by decide) v n (zs.map (Value.int .i64)) h ⟨b, 0, none⟩ 1 c [.int .i64 z] rfl
    (by
      intro j u hu
      rw [addZ]
      match j, hu with
      | 0, hu => simp at hu; subst hu; exact h0
      | j + 1, hu => simp at hu)
    (by intro u hu; simp at hu; subst hu; rfl)
    (by simp only [maxLen]; omega) (by omega) hb
  have k4 : OwnZ w' base v' (n + 1) (zs ++ [z]) := by unfold OwnZ; rw [List.map_append]; exact k1
  rcases k4.2 with ⟨rfl, h1⟩ | ⟨g, cap, cur, rfl, _⟩
  · omega
  · exact ⟨_, _, w', hr, k4, k2, k3⟩
theorem wpList_append_z {ops : Array Oper} {rest : List Oper} {o : Oper} {a : Act} {Q : Exit → Act → World → Prop} {w : World} {base n b c : Nat} {v : Value} {zs : List Int} {z : Int} (hg : o.guard = none) (s y : Operand)
    (ho : o.op = .call { callee := .builtin .append, args := #[s, y], argTypes := #[31, 31] }) (ht : o.type = 31) (hs : a.eval s = v) (hy : a.eval y = .slice (some ⟨b, 0, none⟩) 1 c)
    (h : OwnZ w base v n zs) (hn : n ≤ 100000) (hb : base ≤ w.heap.size) (h0 : w.cell? ⟨b, 0, none⟩ = some (.int .i64 z))
    (hK : ∀ A' c' w', OwnZ w' base (.slice A' (n + 1) c') (n + 1) (zs ++ [z]) → w.grownBy w' v.ownBlock → ((Value.slice A' (n + 1) c').ownBlock = v.ownBlock ∨ (Value.slice A' (n + 1) c').ownBlock = some w.heap.size) → wpList Tryz.prog ops Q rest (a.put o.dst (.slice A' (n + 1) c')) w') : wpList Tryz.prog ops Q (o :: rest) a w := by
  obtain ⟨A', c', w', hr, k1, k2, k3⟩ := app_z h hn hb h0
  refine wpList_plain hg fun K' hK' => ?_
  exact gen_z s y ho hs hy (by rw [ht]; exact hr) (hK' _ _ (hK A' c' w' k1 k2 k3))
theorem OwnZ.iv {w : World} {base n : Nat} {A : Option Addr} {c : Nat} {zs : List Int} (h : OwnZ w base (.slice A n c) n zs) (hl : zs.length = n) : Iv w A n zs := by
  refine ⟨hl, fun h0 => ?_⟩
  rcases h.2 with ⟨h1, h2⟩ | ⟨g, cap, cur, e, hb, hg, hnc, hcm, hcs, ht⟩
  · omega
  · cases e
    refine ⟨g, 0, rfl, (Array.getElem?_eq_some_iff.1 hg).1, fun j hj => ?_⟩
    have := World.ownsRow.cells h (g := g) rfl j (.int .i64 (zs.getD j 0)) (by
      rw [List.getElem?_map, List.getElem?_eq_getElem (by omega), List.getD_eq_getElem?_getD, List.getElem?_eq_getElem (by omega)]; rfl)
    rw [addZ] at this
    rw [Nat.zero_add]; exact this
theorem OwnZ.ge {w : World} {base n : Nat} {v : Value} {zs : List Int} (h : OwnZ w base v n zs) : ∀ g, v.ownBlock = some g → base ≤ g := fun g hg => (World.ownsRow.lt h g hg).1
theorem ix20 (x y : Int) (W : World) : (Instr.index 166 (.agg #[.int .i64 x, .int .i64 y]) (.int .i64 0)).run Tryz.prog W = .ok (.int .i64 x) W := by
  simp [Instr.index, run_underlying Tryz.underlying166, asIntOf, go_sem]
theorem ix21 (x y : Int) (W : World) : (Instr.index 166 (.agg #[.int .i64 x, .int .i64 y]) (.int .i64 1)).run Tryz.prog W = .ok (.int .i64 y) W := by
  simp [Instr.index, run_underlying Tryz.underlying166, asIntOf, go_sem]
theorem spot_max {L : List Int} {m own xo : Int} (h : IsMax (L ++ [-10000]) m) (h0 : L ≠ []) (hl : ∀ v ∈ L, -600 ≤ v) : decide (xo ≤ own - m) = L.all fun v => decide (xo ≤ own - v) := by
  obtain ⟨h1, h2⟩ := h
  have hm : m ∈ L := by
    rcases List.mem_append.1 h1 with hm | hm
    · exact hm
    · obtain ⟨v, hv⟩ := List.exists_mem_of_ne_nil L h0
      have h3 := h2 v (List.mem_append.2 (.inl hv))
      have h4 := hl v hv
      rw [List.mem_singleton] at hm
      omega
  rw [Bool.eq_iff_iff, decide_eq_true_iff, List.all_eq_true]
  constructor
  · intro hx v hv
    have := h2 v (List.mem_append.2 (.inl hv))
    rw [decide_eq_true_iff]; omega
  · intro hx
    have := hx m hm
    rwa [decide_eq_true_iff] at this
theorem Rv.sub {w : World} {b o n lo t : Nat} {rs : List (List Int)} (h : Rv w (some ⟨b, o, none⟩) n rs) (ht : t ≤ n) : Rv w (some ⟨b, o + lo, none⟩) (t - lo) ((rs.drop lo).take (t - lo)) := by
  refine ⟨by rw [List.length_take, List.length_drop, h.len]; omega, fun h0 => ?_⟩
  obtain ⟨b', o', e, hb, hc⟩ := h.at_ (by omega)
  cases e
  refine ⟨b, o + lo, rfl, hb, fun j hj => ?_⟩
  rw [List.getD_eq_getElem?_getD, List.getElem?_take, if_pos hj, List.getElem?_drop, ← List.getD_eq_getElem?_getD, Nat.add_assoc]
  exact hc (lo + j) (by omega)
section
variable {w : World} {A : Option Addr} {n c m t k : Nat} {rs : List (List Int)} {x : Wt}
set_option maxHeartbeats 16000000 in
theorem alarms_ok (h : Rv w A n rs) (hc : n ≤ c) (hg : Good m rs) (hx : watchB x = true) (ht : t < n) (hk : k < m) :
    Calls Tryz.prog 46 #[.slice A n c, wtv x, .int .i64 (t : Int), .int .i64 (k : Int)] w fun e w' => e = .returned (.agg #[.bool (hotB x rs t k), .bool (riseB x rs t k), .bool (spotB x m rs t k)]) ∧ Below w.heap.size w w' := by
  obtain ⟨xa, xr, xi, xo⟩ := x
  have hw := hx
  simp only [watchB, inB, Bool.and_eq_true, decide_eq_true_eq] at hw
  obtain ⟨q1, ⟨q2, q3⟩, ⟨q4, q5⟩, q6, q7⟩ := hw
  have q1' := tmp_sml q1
  obtain ⟨b, o, rfl, hbl, hat⟩ := h.at_ (by omega)
  obtain ⟨B, l, e, k0, kv⟩ := hat t ht
  have hmem := getD_in (d := ([] : List Int)) (show t < rs.length by rw [h.len]; exact ht)
  have hlm : l = m := by rw [← hg.len _ hmem]; exact kv.len.symm
  subst hlm
  have hown := hg.at (t := t) (k := k) (by rw [h.len]; exact ht) hk
  obtain ⟨b', o', rfl, hbl', hat'⟩ := kv.at_ (by omega)
  have k1 := hat' k hk
  obtain ⟨own, ho⟩ : ∃ z, (rs.getD t []).getD k 0 = z := ⟨_, rfl⟩
  rw [ho] at k1
  have HOWN : Hid (at2 rs t k = own) := qh ho
  have ho2 := hown
  rw [HOWN.out] at ho2
  have HAT := qh hat'
  have H := qh h
  have HG := qh hg
  have HS := qh (And.intro ho2 (And.intro q2 (And.intro q3 (And.intro q4 (And.intro q5 (And.intro q6 (And.intro q7 (And.intro q1' hc))))))))
  have HK0 := qh hk
  have hn1000 : n ≤ 1000 := by rw [← h.len]; exact hg.few
  have hk64 : k < 64 := Nat.lt_of_lt_of_le hk hg.m64
  clear h hat hat' kv hmem hown ho hg hx q1 q1' ho2
  go_enter Tryz.func46, Tryz.ntmps46
  go_upto_region 1 with (fail)
  have bV : Below w.heap.size w (((w.alloc (.cells #[.int .i64 xa, .int .i64 xr, .int .i64 xi, .int .i64 xo] 24)).alloc (.cells #[.int .i64 (k : Int)] 3)).alloc (.cells #[.bool false, .bool false, .bool false] 95)) := bi
  have BK : Blk (((w.alloc (.cells #[.int .i64 xa, .int .i64 xr, .int .i64 xi, .int .i64 xo] 24)).alloc (.cells #[.int .i64 (k : Int)] 3)).alloc (.cells #[.bool false, .bool false, .bool false] 95)) (w.heap.size + 1) 3 #[.int .i64 (k : Int)] := by
    have := Blk.new (w.alloc (.cells #[.int .i64 xa, .int .i64 xr, .int .i64 xi, .int .i64 xo] 24)) 3 #[.int .i64 (k : Int)]
    rw [World.size_alloc] at this
    exact this.alloc _
  have BW : Blk (((w.alloc (.cells #[.int .i64 xa, .int .i64 xr, .int .i64 xi, .int .i64 xo] 24)).alloc (.cells #[.int .i64 (k : Int)] 3)).alloc (.cells #[.bool false, .bool false, .bool false] 95)) w.heap.size 24 #[.int .i64 xa, .int .i64 xr, .int .i64 xi, .int .i64 xo] := ((Blk.new w _ _).alloc _).alloc _
  have BA : Blk (((w.alloc (.cells #[.int .i64 xa, .int .i64 xr, .int .i64 xi, .int .i64 xo] 24)).alloc (.cells #[.int .i64 (k : Int)] 3)).alloc (.cells #[.bool false, .bool false, .bool false] 95)) (w.heap.size + 1 + 1) 95 #[.bool false, .bool false, .bool false] := by
    have := Blk.new ((w.alloc (.cells #[.int .i64 xa, .int .i64 xr, .int .i64 xi, .int .i64 xo] 24)).alloc (.cells #[.int .i64 (k : Int)] 3)) 95 #[.bool false, .bool false, .bool false]
    rw [World.size_alloc, World.size_alloc] at this
    exact this
  obtain ⟨V, hV⟩ : ∃ V, (((w.alloc (.cells #[.int .i64 xa, .int .i64 xr, .int .i64 xi, .int .i64 xo] 24)).alloc (.cells #[.int .i64 (k : Int)] 3)).alloc (.cells #[.bool false, .bool false, .bool false] 95)) = V := ⟨_, rfl⟩
  rw [hV] at bV BK BW BA ⊢
  have w0 := BK.cell 0
  have zK := BK.lt
  simp only [List.getElem?_toArray, List.getElem?_cons_zero] at w0
  replace k0 := cell_on bV k0
  replace k1 := cell_on bV k1
  have zb : b < V.heap.size := World.block_lt_of_cell? V _ k0
  have zb' : b' < V.heap.size := World.block_lt_of_cell? V _ k1
  have zA := BA.lt
  clear hV
  refine wp_region_T (fun w' => Below V.heap.size V w') [8] (by kernel_rfl) ?_
  refine tb 0 (.slice (some ⟨b, o, none⟩) n c) [] rfl (by kernel_rfl) pk rfl (by intros; go_simp) bq0 ?_
  simp only [ppq]
  refine tb 1 (.int .i64 (t : Int)) [] rfl (by kernel_rfl) pk rfl (by intros; go_simp) bq0 ?_
  simp only [ppq]
  refine tb 2 (.pointer (some ⟨b, o + t, none⟩)) [] rfl (by kernel_rfl) pk rfl (by intros; go_simp) bq0 ?_
  simp only [ppq]
  refine tb 3 (.slice (some ⟨b', o', none⟩) l e) [] rfl (by kernel_rfl) pk rfl (by intros; go_simp) bq0 ?_
  simp only [ppq]
  refine tb 4 (.int .i64 (k : Int)) [] rfl (by kernel_rfl) pk rfl (by intros; go_simp) bq0 ?_
  simp only [ppq]
  refine tb 5 (.pointer (some ⟨b', o' + k, none⟩)) [] rfl (by kernel_rfl) pk rfl (by intros; go_simp) bq0 ?_
  simp only [ppq]
  refine tb 6 (.int .i64 own) [] rfl (by kernel_rfl) pk rfl (by intros; go_simp) bq0 ?_
  simp only [ppq]
  refine rd1 7 (by kernel_rfl) rfl (fun K hK => ?_)
  go_simp
  refine hK.out _ _ (fun _ => bi) ?_
  clear hK K
  refine rd1 8 (by kernel_rfl) rfl (fun K hK => ?_)
  go_simp
  refine hK.out _ _ (fun h => (h (by decide)).elim) ?_
  clear hK K
  refine wpAnyT_done (by kernel_rfl) ?_ _
  have hlot : ((t - lo ⟨xa, xr, xi, xo⟩ t : Nat) : Int) = (t : Int) - (lo ⟨xa, xr, xi, xo⟩ t : Nat) := by unfold lo; omega
  obtain ⟨u, hu⟩ : ∃ u, lo ⟨xa, xr, xi, xo⟩ t = u := ⟨_, rfl⟩
  have hut : u ≤ t := by rw [← hu]; unfold lo; omega
  have hui : (u : Int) = if 0 < (t : Int) - xi then (t : Int) - xi else 0 := by rw [← hu]; unfold lo; dsimp only; split <;> omega
  have HU := qh hu
  have BW2 := (BW.alloc (.cells #[.int .i64 own] 3))
  have BK2 := (BK.alloc (.cells #[.int .i64 own] 3))
  have BA2 := (BA.alloc (.cells #[.int .i64 own] 3))
  have BO := Blk.new V 3 #[.int .i64 own]
  have bV2 := below_alloc bV (.cells #[.int .i64 own] 3)
  replace k0 := cellA k0 (.cells #[.int .i64 own] 3)
  replace k1 := cellA k1 (.cells #[.int .i64 own] 3)
  have hut2 : u ≤ c := by omega
  have htc : t ≤ c := by omega
  obtain ⟨U, hU⟩ : ∃ U, V.alloc (.cells #[.int .i64 own] 3) = U := ⟨_, rfl⟩
  obtain ⟨p9, hp9⟩ : ∃ p, V.heap.size = p := ⟨_, rfl⟩
  rw [hU] at BW2 BK2 BA2 BO bV2 k0 k1 ⊢
  rw [hp9] at BO zK zA zb zb' ⊢
  have BWH := qh BW2
  have BKH := qh BK2
  have BAH := qh BA2
  have BOH := qh BO
  have e2 := BWH.out.cell 2
  have zW := BWH.out.lt
  simp only [List.getElem?_toArray, List.getElem?_cons_zero, List.getElem?_cons_succ] at e2
  clear BW BK BA BW2 BK2 BA2 BO hU hp9 hu w0 bV hlot
  obtain ⟨g, hg⟩ : ∃ g, riseB ⟨xa, xr, xi, xo⟩ rs t k = g := ⟨_, rfl⟩
  have HGR := qh hg
  have HAS : Hid (Has k ((rs.drop u).take (t - u))) := qh (fun z hz => by
    have hz2 := List.mem_of_mem_drop (List.mem_of_mem_take hz)
    have hl := HG.out.len z hz2
    have := tmp_sml (HG.out.tmp z hz2 _ (getD_in (d := (0 : Int)) (show k < z.length by rw [hl]; exact hk)))
    exact ⟨by rw [hl]; exact hk, by unfold Sml; omega⟩)
  have HRS : Hid (∀ W, Below U.heap.size U W → Rise W p9 (w.heap.size + 1) w.heap.size k own xr) := qh (fun W hW => Rise.below ⟨BOH.out.cell 0, BKH.out.cell 0, BWH.out.cell 1⟩ hW)
  have hso : Sml own := by have := HS.out.1; exact ⟨by omega, by omega⟩
  have hg2 : ((rs.drop u).take (t - u)).any (fun z => decide (xr ≤ own - z.getD k 0)) = g := by
    have := hg
    unfold riseB at this
    rw [HU.out, HOWN.out] at this
    exact this
  have HCF := qh (fun W (hW : Below U.heap.size U W) => rowAny_ok (c := c - u) (((H.out.below bV2).below hW).sub (lo := u) (Nat.le_of_lt ht)) (by omega) (HRS.out W hW) HAS.out hso hg2)
  clear hg hg2 hso
  go_upto_region 2 with (fail)
  have HUI := qh hui
  clear hui q2 q3 q4 q5 q6 q7
  go_cut [10] (fun v wx => v = .bool g ∧ Below U.heap.size U wx)
  case first =>
    have hui := HUI.out
    have q6 := HS.out.2.2.2.2.2.1
    have q7 := HS.out.2.2.2.2.2.2.1
    by_cases h0 : 0 < (t : Int) - xi
    · rw [if_pos h0] at hui
      have hu1 : (t : Int) - xi = (u : Int) := hui.symm
      have hu2 : (0 : Int) < (u : Int) := by omega
      have hu3 : 0 < u := by omega
      have hcu : ¬ c = u := by omega
      clear h0 hui
      go_wp2_with (go_at_call 104; (with_reducible refine mo0 (HCF.out _ bi) fun w1 hb1 hc1 hf1 _ => ?_))
      go_meet
      exact ⟨rfl, bi⟩
    · rw [if_neg h0] at hui
      have hu1 : u = 0 := by omega
      subst hu1
      clear hui
      go_wp2_with (go_at_call 104; (with_reducible refine mo0 (HCF.out _ bi) fun w1 hb1 hc1 hf1 _ => ?_))
      go_meet
      exact ⟨rfl, bi⟩
  case rest =>
    obtain ⟨rfl, hbc⟩ := hcut
    have _ := bm hbc
    have bC := below_step bV2 hbc
    have c0 := cell_on hbc k0
    have BKc := BKH.out.below hbc
    have kc0 := BKc.cell 0
    have zkc := BKc.lt
    simp only [List.getElem?_toArray, List.getElem?_cons_zero] at kc0
    clear HUI hut hut2 htc hn1000 HCF HRS HAS HU e2
    have HC0 := qh (And.intro c0 (And.intro hbc bC))
    clear c0 hbc bC k0 k1
    go_wp2
    go_loopw [11, 37] (fun v u wr => ∃ (j nn co : Nat) (Ao : Option Addr), u = .int .i64 (j : Int) ∧ v = .slice Ao nn co ∧ j ≤ 2 ∧ nn ≤ j ∧ Below wc.heap.size wc wr ∧ OwnZ wr wc.heap.size (.slice Ao nn co) nn (nearJ l rs t k j)) (fun _ u _ => 2 - (intOf u).toNat)
    case atStart => exact ⟨0, 0, 0, none, rfl, rfl, by omega, by omega, bi, World.ownsRow_nil _ _ _ _⟩
    case round =>
      obtain ⟨j, nn, co, Ao, rfl, rfl, hj2, hnj, hbr, how⟩ := hrel
      have _ := bm hbr
      have HOW := qh how
      clear how
      have hkk := HK0.out
      have c0 := cell_on hbr HC0.out.1
      have zb : b < wr.heap.size := World.block_lt_of_cell? wr _ c0
      by_cases hj0 : j = 0
      · subst hj0
        obtain rfl : nn = 0 := by omega
        have hi0 := fun W => ix20 ((k : Int) - 1) ((k : Int) + 1) W
        by_cases h1 : 1 ≤ k
        · have k3 := cell_on hbr (cell_on HC0.out.2.1 (cell_on bV2 (HAT.out (k - 1) (by omega))))
          obtain ⟨z, hz⟩ : ∃ z, (rs.getD t []).getD (k - 1) 0 = z := ⟨_, rfl⟩
          rw [hz] at k3
          have HZ : Hid (nearJ l rs t k 1 = nearJ l rs t k 0 ++ [z]) := qh (by unfold nearJ; simp only [if_true]; rw [if_neg (by omega), if_pos h1, ← hz]; rfl)
          have p1 : decide (0 ≤ (k : Int) - 1) = true := by rw [decide_eq_true_iff]; omega
          have p2 : decide ((k : Int) - 1 < (l : Int)) = true := by rw [decide_eq_true_iff]; omega
          have p3 : (0 : Int) ≤ (k : Int) - 1 := by omega
          have p4 : (k : Int) - 1 < (l : Int) := by omega
          clear hz h1
          go_wp2_with (at_builtin; refine wpList_append_z (z := z) (n := 0) (base := wc.heap.size) rfl _ _ rfl rfl rfl rfl (HOW.out.alloc _) (by omega) (by have := hbr.size; simp; omega) (by simp) ?_; intro A5 c5 w5 ho5 hg5 hl5)
          have hb5 : RowKit.Below wc.heap.size wc w5 := Below.trans (below_alloc hbr _) (grownB hg5 (by have := hbr.size; simp; omega) (fun j hj => HOW.out.ge j hj))
          exact ⟨⟨1, 1, c5, A5, rfl, rfl, by omega, by omega, hb5, by rw [HZ.out]; exact ho5⟩, by simp [intOf]⟩
        · have HZ : Hid (nearJ l rs t k 1 = nearJ l rs t k 0) := qh (by unfold nearJ; simp only [if_true]; rw [if_neg (by omega), if_neg h1])
          have p1 : decide (0 ≤ (k : Int) - 1) = false := by rw [decide_eq_false_iff_not]; omega
          have p2 : decide ((1 : Int) ≤ (k : Int)) = false := by rw [decide_eq_false_iff_not]; omega
          have p3 : decide (1 ≤ k) = false := by rw [decide_eq_false_iff_not]; exact h1
          clear h1
          go_wp2
          exact ⟨⟨1, 0, co, Ao, rfl, rfl, by omega, by omega, hbr, by rw [HZ.out]; exact HOW.out⟩, by simp [intOf]⟩
      · by_cases hj1 : j = 1
        · subst hj1
          have hi1 := fun W => ix21 ((k : Int) - 1) ((k : Int) + 1) W
          have p0 : decide (0 ≤ (k : Int) + 1) = true := by rw [decide_eq_true_iff]; omega
          by_cases h1 : k + 1 < l
          · have k3 := cell_on hbr (cell_on HC0.out.2.1 (cell_on bV2 (HAT.out (k + 1) h1)))
            obtain ⟨z, hz⟩ : ∃ z, (rs.getD t []).getD (k + 1) 0 = z := ⟨_, rfl⟩
            rw [hz] at k3
            have HZ : Hid (nearJ l rs t k 2 = nearJ l rs t k 1 ++ [z]) := qh (by unfold nearJ nearL; simp only [show ¬ ((2 : Nat) = 0) by omega, show ¬ ((2 : Nat) = 1) by omega, show ¬ ((1 : Nat) = 0) by omega, if_false, if_true]; rw [if_pos h1, ← hz]; rfl)
            have p1 : decide (k + 1 < l) = true := by rw [decide_eq_true_iff]; exact h1
            have p2 : decide ((k : Int) + 1 < (l : Int)) = true := by rw [decide_eq_true_iff]; omega
            have p4 : (k : Int) + 1 < (l : Int) := by omega
            clear hz
            go_wp2_with (at_builtin; refine wpList_append_z (z := z) (n := nn) (base := wc.heap.size) rfl _ _ rfl rfl rfl rfl (HOW.out.alloc _) (by omega) (by have := hbr.size; simp; omega) (by simp) ?_; intro A5 c5 w5 ho5 hg5 hl5)
            have hb5 : RowKit.Below wc.heap.size wc w5 := Below.trans (below_alloc hbr _) (grownB hg5 (by have := hbr.size; simp; omega) (fun j hj => HOW.out.ge j hj))
            exact ⟨⟨2, nn + 1, c5, A5, rfl, rfl, by omega, by omega, hb5, by rw [HZ.out]; exact ho5⟩, by simp [intOf]⟩
          · have HZ : Hid (nearJ l rs t k 2 = nearJ l rs t k 1) := qh (by unfold nearJ nearL; simp only [show ¬ ((2 : Nat) = 0) by omega, show ¬ ((2 : Nat) = 1) by omega, show ¬ ((1 : Nat) = 0) by omega, if_false, if_true]; rw [if_neg h1, List.append_nil])
            have p1 : decide (k + 1 < l) = false := by rw [decide_eq_false_iff_not]; exact h1
            have p2 : decide ((k : Int) + 1 < (l : Int)) = false := by rw [decide_eq_false_iff_not]; omega
            clear h1
            go_wp2
            exact ⟨⟨2, nn, co, Ao, rfl, rfl, by omega, by omega, hbr, by rw [HZ.out]; exact HOW.out⟩, by simp [intOf]⟩
        · obtain rfl : j = 2 := by omega
          have hlen : (nearL l rs t k).length = nn := by
            have := HOW.out.1
            rw [List.length_map, Nat.mul_one] at this
            exact this
          obtain ⟨sp, hsp⟩ : ∃ s, spotB ⟨xa, xr, xi, xo⟩ l rs t k = s := ⟨_, rfl⟩
          have HSP := qh hsp
          have BOc := BOH.out.below HC0.out.2.1
          have BWc := BWH.out.below HC0.out.2.1
          have v0 := BOc.cell 0
          have v3 := BWc.cell 3
          have zO := BOc.lt
          have zWc := BWc.lt
          simp only [List.getElem?_toArray, List.getElem?_cons_zero, List.getElem?_cons_succ] at v0 v3
          have HNL : Hid (∀ v ∈ nearL l rs t k, -600 ≤ v ∧ v ≤ 1000) := qh (fun v hv => by
            unfold nearL at hv
            rcases List.mem_append.1 hv with hv | hv
            · split at hv
              · rw [List.mem_singleton.1 hv]
                exact HG.out.at (by rw [H.out.len]; exact ht) (by omega)
              · cases hv
            · split at hv
              · rw [List.mem_singleton.1 hv]
                exact HG.out.at (by rw [H.out.len]; exact ht) (by omega)
              · cases hv)
          go_upto_region 10 with (fail)
          go_cut [14] (fun v wx => v = .bool sp ∧ RowKit.Below wc.heap.size wc wx)
          case first =>
            by_cases hn0 : nn = 0
            · subst hn0
              have hnil := List.length_eq_zero_iff.1 hlen
              have hs0 : sp = false := by rw [← hsp]; unfold spotB; rw [hnil]; rfl
              subst hs0
              refine wp_region_T (fun w' => Below wc.heap.size wc w') [] (by kernel_rfl) ?_
              refine tb 0 (.slice Ao 0 co) [] rfl (by kernel_rfl) pk rfl (by intros; go_simp) (bD hbr) ?_
              simp only [ppq]
              refine tb 1 (.int .i64 0) [] rfl (by kernel_rfl) pk rfl (by intros; go_simp) (bD hbr) ?_
              simp only [ppq]
              refine tb 2 (.bool false) [] rfl (by kernel_rfl) pk rfl (by intros; go_simp) (bD hbr) ?_
              simp only [ppq]
              refine tb 3 (.bool false) [] rfl (by kernel_rfl) pk rfl (by intros; go_simp) (bD hbr) ?_
              simp only [ppq]
              refine ts 4 [] rfl (by kernel_rfl) pk (by rfl) (bD hbr) ?_
              simp only [ppq]
              refine ts 5 [] rfl (by kernel_rfl) pk (by rfl) (bD hbr) ?_
              simp only [ppq]
              refine ts 6 [] rfl (by kernel_rfl) pk (by rfl) (bD hbr) ?_
              simp only [ppq]
              refine ts 7 [] rfl (by kernel_rfl) pk (by rfl) (bD hbr) ?_
              simp only [ppq]
              refine ts 8 [] rfl (by kernel_rfl) pk (by rfl) (bD hbr) ?_
              simp only [ppq]
              refine ts 9 [] rfl (by kernel_rfl) pk (by rfl) (bD hbr) ?_
              simp only [ppq]
              refine ts 10 [] rfl (by kernel_rfl) pk (by rfl) (bD hbr) ?_
              simp only [ppq]
              refine ts 11 [] rfl (by kernel_rfl) pk (by rfl) (bD hbr) ?_
              simp only [ppq]
              refine ts 12 [] rfl (by kernel_rfl) pk (by rfl) (bD hbr) ?_
              simp only [ppq]
              refine rd1 13 (by kernel_rfl) rfl (fun K hK => ?_)
              go_simp
              refine hK.out _ _ (fun _ => bi) ?_
              clear hK K
              refine rd1 14 (by kernel_rfl) rfl (fun K hK => ?_)
              go_simp
              refine hK.out _ _ (fun _ => bi) ?_
              clear hK K
              refine wpAnyT_done (by kernel_rfl) ?_ _
              go_wp2_with (fail)
              go_meet
              exact ⟨rfl, bi⟩
            · have hnp : 0 < nn := Nat.pos_of_ne_zero hn0
              have hs1 : (nearL l rs t k).all (fun v => decide (xo ≤ own - v)) = sp := by
                rw [← hsp]
                unfold spotB
                rw [HOWN.out]
                have : (nearL l rs t k).isEmpty = false := by rw [← Bool.not_eq_true, List.isEmpty_iff]; intro e; rw [e] at hlen; simp at hlen; omega
                rw [this]; rfl
              have hne : nearL l rs t k ≠ [] := fun e => by rw [e] at hlen; simp at hlen; omega
              have HNE := qh (And.intro hne (And.intro hs1 hlen))
              have p1 : decide (0 < (nn : Int)) = true := by rw [decide_eq_true_iff]; omega
              have p2 : decide (0 < nn) = true := by rw [decide_eq_true_iff]; omega
              clear hn0 hsp hs1 hne hlen
              refine wp_region_T (fun w' => Below wc.heap.size wc w') [] (by kernel_rfl) ?_
              refine tb 0 (.slice Ao nn co) [] rfl (by kernel_rfl) pk rfl (by intros; go_simp) (bD hbr) ?_
              simp only [ppq]
              refine tb 1 (.int .i64 (nn : Int)) [] rfl (by kernel_rfl) pk rfl (by intros; go_simp) (bD hbr) ?_
              simp only [ppq]
              refine tb 2 (.bool true) [] rfl (by kernel_rfl) pk rfl (by intros; go_simp) (bD hbr) ?_
              simp only [ppq]
              refine tb 3 (.bool true) [] rfl (by kernel_rfl) pk rfl (by intros; go_simp) (bD hbr) ?_
              simp only [ppq]
              refine tb 4 (.int .i64 own) [] rfl (by kernel_rfl) pk rfl (by intros; go_simp) (bD hbr) ?_
              simp only [ppq]
              refine tb 5 (.slice Ao nn co) [] rfl (by kernel_rfl) pk rfl (by intros; go_simp) (bD hbr) ?_
              simp only [ppq]
              refine tb 10 (.pointer (some ⟨w.heap.size, 3, none⟩)) [] rfl (by kernel_rfl) pk rfl (by intros; go_simp) (bD hbr) ?_
              simp only [ppq]
              refine tb 11 (.int .i64 xo) [] rfl (by kernel_rfl) pk rfl (by intros; go_simp) (bD hbr) ?_
              simp only [ppq]
              have hb6 : RowKit.Below wc.heap.size wc (wr.alloc (.cells #[.int .i64 (-10000)] 3)) := below_alloc hbr _
              refine rd1 6 (by kernel_rfl) rfl (fun K hK => ?_)
              go_simp
              refine hK.out _ _ (fun _ => bD hb6) ?_
              clear hK K
              obtain ⟨A7, c7, w7, hr7, ho7, hg7, hl7⟩ := app_z (w := (wr.alloc (.cells #[.int .i64 (-10000)] 3)).drew) (b := wr.heap.size) (c := 1) (z := -10000) (World.ownsRow.drew (HOW.out.alloc (.cells #[.int .i64 (-10000)] 3))) (by omega) (by have := hb6.size; exact this) (by simp)
              have hb7 : RowKit.Below wc.heap.size wc w7 := Below.trans (bD hb6) (grownB hg7 (by have := hb6.size; exact this) (fun j hj => HOW.out.ge j hj))
              refine rd1 7 (by kernel_rfl) rfl (fun K hK => ?_)
              rw [if_pos (by rfl)]
              refine gen_z _ _ rfl rfl rfl hr7 ?_
              refine hK.out _ _ (fun _ => hb7) ?_
              clear hK K
              have hiv : Iv w7 A7 (nn + 1) (nearL l rs t k ++ [-10000]) := OwnZ.iv ho7 (by rw [List.length_append, HNE.out.2.2]; rfl)
              have HMX := qh (fun W (hW : RowKit.Below w7.heap.size w7 W) => max_ok (c := c7) (hiv.below hW) (by omega) (by omega))
              refine rd1 8 (by kernel_rfl) rfl (fun K hK => ?_)
              go_simp
              go_wp2_with (go_at_call 106; (with_reducible refine (HMX.out _ (Below.refl _ _)).mono ?_); rintro e8 w8 ⟨mx, rfl, hm8, hb8⟩; have _ := bm hb8)
              have hb8w := below_step hb7 hb8
              have hsm := spot_max hm8 HNE.out.1 (own := own) (xo := xo) (fun v hv => (HNL.out v hv).1)
              rw [HNE.out.2.1] at hsm
              have hmb : -10000 ≤ mx ∧ mx ≤ 1000 := by
                refine ⟨hm8.2 _ (by simp), ?_⟩
                rcases List.mem_append.1 hm8.1 with h | h
                · exact (HNL.out _ h).2
                · rw [List.mem_singleton.1 h]; omega
              have mw : IntKind.i64.wrap (own - mx) = own - mx := by
                have := HS.out.1
                simp [IntKind.wrap, IntKind.bits, IntKind.signed]; omega
              clear hmb
              have _ := bm hb8w
              refine hK.out _ _ (fun _ => hb8w) ?_
              clear hK K
              refine rd1 9 (by kernel_rfl) rfl (fun K hK => ?_)
              go_simp
              refine hK.out _ _ (fun _ => bi) ?_
              clear hK K
              refine rd1 12 (by kernel_rfl) rfl (fun K hK => ?_)
              go_simp
              refine hK.out _ _ (fun _ => bi) ?_
              clear hK K
              refine rd1 13 (by kernel_rfl) rfl (fun K hK => ?_)
              go_simp
              refine hK.out _ _ (fun _ => bi) ?_
              clear hK K
              refine rd1 14 (by kernel_rfl) rfl (fun K hK => ?_)
              go_simp
              refine hK.out _ _ (fun _ => bi) ?_
              clear hK K
              refine wpAnyT_done (by kernel_rfl) ?_ _
              go_wp2_with (fail)
              go_meet
              exact ⟨rfl, hb8w⟩
          case rest =>
            obtain ⟨rfl, hbx⟩ := hcut
            have _ := bm hbx
            rename World => we
            have o0 := cell_on hbx v0
            have BWe := BWc.below hbx
            have a0 := BWe.cell 0
            have zWe := BWe.lt
            have BAe := (BAH.out.below HC0.out.2.1).below hbx
            have r0 := BAe.cell 0
            have r1 := BAe.cell 1
            have r2 := BAe.cell 2
            have rf := BAe.frozen
            have zAe := BAe.lt
            simp only [List.getElem?_toArray, List.getElem?_cons_zero, List.getElem?_cons_succ] at a0 r0 r1 r2
            have bE := below_step HC0.out.2.2 hbx
            obtain ⟨ht2, hht⟩ : ∃ z, decide (xa < own) = z := ⟨_, rfl⟩
            have HHT : Hid (hotB ⟨xa, xr, xi, xo⟩ rs t k = ht2) := qh (by unfold hotB; rw [HOWN.out]; exact hht)
            clear hsp hlen hbr BWc BOc
            go_wp2
            refine bodyPost_ret (v := .agg #[.bool ht2, .bool g, .bool sp]) (by simp [results, Tryz.results46, go_sem, r0, r1, r2, rf]) rfl ?_
            exact ⟨by rw [HHT.out, HGR.out, HSP.out], bC (bC (bC bE (show w.heap.size ≤ w.heap.size + 1 + 1 by omega)) (show w.heap.size ≤ w.heap.size + 1 + 1 by omega)) (show w.heap.size ≤ w.heap.size + 1 + 1 by omega)⟩
end
end Go.Proofs.YtnbnoacadhoimaaGreatDoor
namespace Go.Proofs.YtnbnoacadhoimaaGreatDoor
open Go Go.RowKit

theorem rowE_zero {m : Nat} {r : List Int} (h : rowE m r = 0) : 0 < r.length ∧ r.length ≤ 64 ∧ r.length = m ∧ ∀ v ∈ r, tmpB v = true := by
  rw [rowE_eq] at h
  split at h
  · cases h
  · split at h
    · cases h
    · split at h
      · cases h
      · split at h
        · cases h
        · rename_i h1 h2 h3 h4
          refine ⟨by omega, by omega, by omega, fun v hv => ?_⟩
          cases e : tmpB v with
          | true => rfl
          | false => exact absurd (List.any_eq_true.2 ⟨v, hv, by rw [e]; rfl⟩) h4
theorem rowsE_zero {m : Nat} : ∀ {l : List (List Int)}, rowsE m l = 0 → ∀ r ∈ l, rowE m r = 0
  | [], _, r, hr => by cases hr
  | a :: l, h, r, hr => by
    rw [rowsE_cons] at h
    split at h
    · rename_i h1
      rcases List.mem_cons.1 hr with rfl | hr
      · exact h1
      · exact rowsE_zero h r hr
    · rename_i h1; exact absurd h h1
theorem good_of {rs : List (List Int)} (h : readE rs = 0) : 0 < rs.length ∧ Good (rs.getD 0 []).length rs := by
  unfold readE at h
  split at h
  · cases h
  · split at h
    · cases h
    · rename_i h1 h2
      have h0 := rowsE_zero h
      have hz := rowE_zero (h0 _ (getD_in (d := ([] : List Int)) (show 0 < rs.length by omega)))
      exact ⟨by omega, ⟨fun z hz => (rowE_zero (h0 z hz)).2.2.1, fun z hz => (rowE_zero (h0 z hz)).2.2.2, hz.1, hz.2.1, by omega⟩⟩
def rowsF (sm : Bool) (l : List (List Int)) : Option Bool := if (l.all fun x => decide (x.length ≤ 70)) = true then some (sm && l.all fun x => decide (x.length ≤ 8)) else none
/-- What rows says. -/
def rowsG (rs : List (List Int)) : Bool :=
  if 1010 < rs.length then false else match rowsF (decide (rs.length ≤ 10)) rs with
  | none => false
  | some sm => sm || decide (readE rs ≠ 0)
theorem rowsF_cons (sm : Bool) (r : List Int) (l : List (List Int)) : rowsF sm (r :: l) = if r.length ≤ 70 then rowsF (sm && decide (r.length ≤ 8)) l else none := by
  unfold rowsF
  rw [List.all_cons, List.all_cons]
  by_cases h : r.length ≤ 70
  · rw [if_pos h, decide_eq_true h, Bool.true_and, Bool.and_assoc]
  · rw [if_neg h, decide_eq_false h, Bool.false_and, if_neg (by decide)]
section
variable {w : World} {A : Option Addr} {n c : Nat} {rs : List (List Int)}
theorem rows_many (h : Rv w A n rs) (hn : 1010 < n) : Calls Tryz.prog 7 #[.slice A n c] w fun e w' => e = .returned (.bool false) ∧ Below w.heap.size w w' := by
  obtain ⟨b, o, rfl, hbl, hat⟩ := h.at_ (by omega)
  obtain ⟨B, l, e, k0, kv⟩ := hat 0 (by omega)
  rw [Nat.add_zero] at k0
  have q1 : decide ((n : Int) ≤ 10) = false := by rw [decide_eq_false_iff_not]; omega
  have q2 : decide ((1010 : Int) < (n : Int)) = true := by rw [decide_eq_true_iff]; omega
  have q3 : 0 < n := by omega
  clear h hat kv hn
  go_enter Tryz.func7, Tryz.ntmps7
  go_wp2
  go_loopw [3, 11] (fun v u wr => u = .int .i64 0 ∧ v = .bool false ∧ wr = w) (fun _ _ _ => 0)
  case atStart => exact ⟨rfl, rfl, rfl⟩
  case round =>
    obtain ⟨rfl, rfl, rfl⟩ := hrel
    go_wp2
    go_ret
    exact ⟨rfl, bi⟩
theorem rows_few {g : Bool} (h : Rv w A n rs) (hn : n ≤ 1010) (hg : rowsG rs = g) : Calls Tryz.prog 7 #[.slice A n c] w fun e w' => e = .returned (.bool g) ∧ Below w.heap.size w w' := by
  have H := qh h
  have HN := qh hn
  have hg2 := hg
  unfold rowsG at hg2
  rw [h.len, if_neg (by omega)] at hg2
  have HG := qh hg2
  obtain ⟨s0, hs0⟩ : ∃ s, decide (n ≤ 10) = s := ⟨_, rfl⟩
  rw [hs0] at HG
  have q1 : decide ((n : Int) ≤ 10) = s0 := by rw [← hs0, Bool.eq_iff_iff, decide_eq_true_iff, decide_eq_true_iff]; omega
  have q2 : decide ((1010 : Int) < (n : Int)) = false := by rw [decide_eq_false_iff_not]; omega
  clear h hg hg2 hn
  go_enter Tryz.func7, Tryz.ntmps7
  go_wp2
  go_loopw [3, 11] (fun v u wr => ∃ (i : Nat) (sm : Bool), u = .int .i64 (i : Int) ∧ v = .bool sm ∧ i ≤ n ∧ Below w.heap.size w wr ∧ rowsF sm (rs.drop i) = rowsF s0 rs ∧ ∀ j, j < i → (rs.getD j []).length ≤ 70) (fun _ u _ => n - (intOf u).toNat)
  case atStart => exact ⟨0, s0, rfl, by first | rfl | simp [hs0], Nat.zero_le _, bi, rfl, fun j hj => by omega⟩
  case round =>
    obtain ⟨i, sm, rfl, rfl, hin, hb, hc, hj⟩ := hrel
    have _ := bm hb
    have HC := qh (And.intro hc hj)
    have hnn := HN.out
    clear hc hj q1 hs0
    by_cases hi : i < n
    · have p0 : decide (i < n) = true := by simpa using hi
      have HI := qh hi
      obtain ⟨b, o, rfl, hbl, hat⟩ := (H.out.below hb).at_ (by omega)
      obtain ⟨B, l, e, k0, kv⟩ := hat i hi
      have hl := kv.len
      have hc := HC.out.1
      rw [drop_row (by rw [H.out.len]; exact hi), rowsF_cons, hl] at hc
      have HL := qh hl
      clear hat kv hl
      by_cases h70 : l ≤ 70
      · rw [if_pos h70] at hc
        have q3 : decide ((70 : Int) < (l : Int)) = false := by rw [decide_eq_false_iff_not]; omega
        have q4 : decide (70 < l) = false := by rw [decide_eq_false_iff_not]; omega
        obtain ⟨s1, hs1⟩ : ∃ s, decide (l ≤ 8) = s := ⟨_, rfl⟩
        rw [hs1] at hc
        have q5 : decide ((l : Int) ≤ 8) = s1 := by rw [← hs1, Bool.eq_iff_iff, decide_eq_true_iff, decide_eq_true_iff]; omega
        have HC2 : Hid (rowsF (sm && s1) (rs.drop (i + 1)) = rowsF s0 rs ∧ ∀ j, j < i + 1 → (rs.getD j []).length ≤ 70) := qh ⟨hc, fun j hj => by
          by_cases e : j = i
          · subst e; rw [HL.out]; exact h70
          · exact HC.out.2 j (by omega)⟩
        clear hc HC h70 HG
        cases sm with
        | true =>
          go_wp2
          exact ⟨⟨i + 1, s1, by simp, by simp [hs1], HI.out, bi, HC2.out⟩, by have := HI.out; simp [intOf]; omega⟩
        | false =>
          clear q5
          go_wp2
          exact ⟨⟨i + 1, false, by simp, rfl, HI.out, bi, HC2.out⟩, by have := HI.out; simp [intOf]; omega⟩
      · rw [if_neg h70] at hc
        have q3 : decide ((70 : Int) < (l : Int)) = true := by rw [decide_eq_true_iff]; omega
        have q4 : decide (70 < l) = true := by rw [decide_eq_true_iff]; omega
        have hg := HG.out
        rw [← hc] at hg
        obtain rfl : false = g := hg
        clear hc HC h70 HG
        go_wp2
        go_ret
        exact ⟨rfl, bi⟩
    · have p0 : decide (i < n) = false := by simpa using hi
      have hin2 : i = n := by omega
      have hc := HC.out.1
      rw [List.drop_eq_nil_of_le (by rw [H.out.len]; omega)] at hc
      have hc2 : rowsF s0 rs = some sm := by rw [← hc]; unfold rowsF; simp
      have hg := HG.out
      rw [hc2] at hg
      have hl70 : ∀ r ∈ rs, r.length ≤ 100000 := fun r hr => by
        obtain ⟨j, hj, rfl⟩ := List.mem_iff_getElem.1 hr
        have := HC.out.2 j (by rw [hin2, ← H.out.len]; exact hj)
        rw [List.getD_eq_getElem?_getD, List.getElem?_eq_getElem hj] at this
        have : (rs[j]).length ≤ 70 := this
        omega
      obtain ⟨k, hk⟩ : ∃ k, readE rs = k := ⟨_, rfl⟩
      have HR := qh (fun W (hW : Below w.heap.size w W) => rread_ok (c := c) (H.out.below hW) hl70 hk)
      rw [hk] at hg
      dsimp only at hg
      clear hc HC hi hin HG hl70 hk hc2 hin2
      cases sm with
      | true =>
        obtain rfl : true = g := by rw [← hg]; rfl
        clear hg
        go_wp2
        go_ret
        exact ⟨rfl, bi⟩
      | false =>
        rw [Bool.false_or] at hg
        have q3 : (k != 0) = g := by rw [← hg, Bool.eq_iff_iff]; simp
        clear hg
        go_wp2_with (go_at_call 11; (with_reducible refine mo0 (HR.out _ bi) fun w1 hb1 hc1 hf1 _ => ?_))
        go_ret
        exact ⟨rfl, bi⟩
theorem rows_ok {g : Bool} (h : Rv w A n rs) (hg : rowsG rs = g) : Calls Tryz.prog 7 #[.slice A n c] w fun e w' => e = .returned (.bool g) ∧ Below w.heap.size w w' := by
  by_cases hn : n ≤ 1010
  · exact rows_few h hn hg
  · have : g = false := by
      rw [← hg]; unfold rowsG; rw [h.len, if_pos (by omega)]
    subst this
    exact rows_many h (by omega)
/-- What rows allows. -/
theorem rowsG_true {rs : List (List Int)} (h : rowsG rs = true) : rs.length ≤ 1010 ∧ (∀ r ∈ rs, r.length ≤ 70) ∧ (readE rs = 0 → rs.length ≤ 10 ∧ ∀ r ∈ rs, r.length ≤ 8) := by
  unfold rowsG at h
  split at h
  · cases h
  · rename_i h1
    unfold rowsF at h
    split at h
    · cases h
    · rename_i sm e
      split at e
      · rename_i h2
        injection e with e
        refine ⟨by omega, fun r hr => ?_, fun h0 => ?_⟩
        · have := List.all_eq_true.1 h2 r hr
          simpa using this
        · rw [h0] at h
          have hs : sm = true := by simpa using h
          rw [hs, Bool.and_eq_true, decide_eq_true_iff] at e
          exact ⟨e.1, fun r hr => by simpa using List.all_eq_true.1 e.2 r hr⟩
      · cases e
end
end Go.Proofs.YtnbnoacadhoimaaGreatDoor
