/- Spans: the contracts of checking one, and of checking all of some. -/
import Derived.Test.YtcocnkebpccjdaaGreatDoorMo
import Derived.Test.YtcocnkebpccjdaaGreatDoorMeG
import Derived.Test.YtcocnkebpccjdaaGreatDoorRows
import Derived.Maps.AppendAt
import Derived.OwnWalk
import Derived.Sort.KeysCollected
import Derived.WalkKit
import Derived.ProofKit
import Derived.OpenShut
import Derived.Carry
import Derived.Deep.DeepHandedRow
import Derived.Lib.LaidTab
import Derived.Stop.LaidErr
import Derived.Lay
import Derived.MakeChecks
import Derived.Shelf.Vars
set_option linter.unusedSimpArgs false
set_option linter.unusedVariables false
set_option maxRecDepth 100000
set_option maxHeartbeats 8000000
namespace Go.Proofs.YtcocnkebpccjdaaGreatDoor
open Go Go.RowKit

/-- What is wrong with a span (0: nothing). -/
noncomputable def chkSpan (p : List UInt8 × List UInt8) : Int := if firstNZ chk [p.1, p.2] ≠ 0 then firstNZ chk [p.1, p.2] else if numQ p.2 < numQ p.1 then 11 else 0
theorem first_two {a b : List UInt8} (h : firstNZ chk [a, b] = 0) : chk a = 0 ∧ chk b = 0 := by
 unfold firstNZ at h
 by_cases h1 : chk a = 0
 ·rw [if_pos h1] at h
  unfold firstNZ at h
  by_cases h2 : chk b = 0
  ·exact ⟨h1, h2⟩
  ·rw [if_neg h2] at h; exact absurd h h2
 ·rw [if_neg h1] at h; exact absurd h h1
theorem cmp_gt {x y : Rat} : decide (Rq.cmpQ x y > 0) = decide (y < x) := by
 rw [decide_eq_decide]; exact Rq.cmp_pos
theorem Sv.twoAt {w : World} {t : TypeId} {k l : List UInt8} {b : Nat} (hb : b = w.heap.size) : Sv (w.alloc (.cells #[bs k, bs l] t)) (some ⟨b, 0, none⟩) 2 [k, l] := by
 subst hb; exact Sv.two w t k l
section
variable {w : World} {a b : List UInt8} {x y : Rat}
theorem checkTwo_fact {w : World} {a b : List UInt8} {A : Option Addr} {n c : Nat} {k : Int} (hk : firstNZ chk [a, b] = k) (hE : Env w) (hs : Sv w A n [a, b]) (hn : n ≤ 100000) (hl : a.length < 4294967281) (hl' : b.length < 4294967281) :
  Calls Tryz.prog 57 #[.func (.func 37) #[] #[], .slice A n c] w fun e w' => e = .returned (.int .i64 k) ∧ Below w.heap.size w w' := by
 subst hk
 exact checkAll_nums (c := c) (f := chk) hs hn (fun l hm V hV => by
  have hl2 : l.length < 4294967281 := by
   rcases List.mem_cons.1 hm with rfl | hm
   ·exact hl
   ·rcases List.mem_cons.1 hm with rfl | hm
    ·exact hl'
    ·cases hm
  exact check_num (hE.below hV) hl2)
theorem cspan_err {k : Int} (hE : Env w) (hl : a.length < 4294967281) (hl' : b.length < 4294967281) (hk : firstNZ chk [a, b] = k) (h0 : k ≠ 0) : Calls Tryz.prog 42 #[sp a b] w fun e w' => e = .returned (.int .i64 k) ∧ Below w.heap.size w w' := by
 have HE := Lib.hid hE
 have HL := Lib.hid hl
 have HL' := Lib.hid hl'
 have HK := Lib.hid hk
 have q1 : (k != 0) = true := by rw [bne_iff_ne]; exact h0
 clear hE hl hl' hk h0
 go_enter Tryz.func42, Tryz.ntmps42
 go_wp2_with (go_at_call 57; ((with_reducible refine (checkTwo_fact HK.out (HE.out.below (by with_reducible repeat first | exact bR | assumption | apply bA | apply bD | apply bN | refine bC ?_ (by go_size) | refine bS ?_ ‹_›)) (Sv.twoAt (by simp)) (by omega) HL.out HL'.out).mono ?_); rintro e1 w1 ⟨rfl, hb1⟩); obtain ⟨hc1, hf1⟩ := bcell hb1; (try simp only [dw] at hc1 hf1))
 go_ret
 exact ⟨rfl, (by with_reducible repeat first | exact bR | assumption | apply bA | apply bD | apply bN | refine bC ?_ (by go_size) | refine bS ?_ ‹_›)⟩
theorem cspan_ok {g : Bool} (hE : Env w) (hl : a.length < 4294967281) (hl' : b.length < 4294967281) (ha : IsNum a x) (hb : IsNum b y) (hg : decide (Rq.cmpQ x y > 0) = g) : Calls Tryz.prog 42 #[sp a b] w fun e w' => e = .returned (.int .i64 (if g then 11 else 0)) ∧ Below w.heap.size w w' := by
 have HE := Lib.hid hE
 have HL := Lib.hid hl
 have HL' := Lib.hid hl'
 have HK : Hid (firstNZ chk [a, b] = 0) := Lib.hid (by simp [firstNZ, chk_zero.2 ⟨x, ha⟩, chk_zero.2 ⟨y, hb⟩])
 have HA := Lib.hid ha
 have HB := Lib.hid hb
 have HSA := Lib.hid ha.sz
 have HSB := Lib.hid hb.sz
 obtain ⟨z, hz⟩ : ∃ z, Rq.cmpQ x y = z := ⟨_, rfl⟩
 have HZ := Lib.hid hz
 rw [hz] at hg
 clear hE hl hl' ha hb hz
 cases g
 all_goals
  go_enter Tryz.func42, Tryz.ntmps42
  go_wp2_with (first
   | (go_at_call 57; ((with_reducible refine (checkTwo_fact HK.out (HE.out.below (by with_reducible repeat first | exact bR | assumption | apply bA | apply bD | apply bN | refine bC ?_ (by go_size) | refine bS ?_ ‹_›)) (Sv.twoAt (by simp)) (by omega) HL.out HL'.out).mono ?_); rintro e1 w1 ⟨rfl, hb1⟩); obtain ⟨hc1, hf1⟩ := bcell hb1; (try simp only [dw] at hc1 hf1); have hz1_0 : w.heap.size < w1.heap.size := (by have := hb1.size; (try simp at this); omega))
   | (go_at_call 43; ((with_reducible refine (of_span (HE.out.below (by with_reducible repeat first | exact bR | assumption | apply bA | apply bD | apply bN | refine bC ?_ (by go_size) | refine bS ?_ ‹_›)) HA.out HB.out).mono ?_); rintro e2 w2 ⟨s2, A2, n2, c2, t2, B2, m2, d2, u2, C2, i2, k2, v2, D2, j2, l2, rfl, ⟨hr2, hq2⟩, ⟨hu2, hv2⟩, hb2⟩); obtain ⟨hc2, hf2⟩ := bcell hb2; (try simp only [dw] at hc2 hf2); have hz2_0 : w.heap.size < w2.heap.size := (by have := hb2.size; (try simp at this); omega))
   | (go_at_call 49; ((with_reducible refine (fcmp_fact 600 600 HZ.out ⟨(by with_reducible repeat first | assumption | apply rD | apply rN | apply rA | refine rP ?_ rfl (by simp [go_sem, hc2]) | refine rB ?_ ‹_›), (by with_reducible repeat first | assumption | apply rD | apply rN | apply rA | refine rP ?_ rfl (by simp [go_sem, hc2]) | refine rB ?_ ‹_›)⟩ ⟨(by with_reducible repeat first | assumption | apply rD | apply rN | apply rA | refine rP ?_ rfl (by simp [go_sem, hc2]) | refine rB ?_ ‹_›), (by with_reducible repeat first | assumption | apply rD | apply rN | apply rA | refine rP ?_ rfl (by simp [go_sem, hc2]) | refine rB ?_ ‹_›)⟩ HSA.out HSB.out (by omega)).mono ?_); rintro e3 w3 ⟨rfl, hb3⟩); obtain ⟨hc3, hf3⟩ := bcell hb3; (try simp only [dw] at hc3 hf3)))
  go_ret
  exact ⟨rfl, (by with_reducible repeat first | exact bR | assumption | apply bA | apply bD | apply bN | refine bC ?_ (by go_size) | refine bS ?_ ‹_›)⟩
theorem cspan_num (hE : Env w) (hl : a.length < 4294967281) (hl' : b.length < 4294967281) : Calls Tryz.prog 42 #[sp a b] w fun e w' => e = .returned (.int .i64 (chkSpan (a, b))) ∧ Below w.heap.size w w' := by
 unfold chkSpan
 by_cases h : firstNZ chk [a, b] = 0
 ·rw [if_neg (by simpa using h)]
  obtain ⟨h1, h2⟩ := first_two h
  have hx := numQ_is h1
  have hy := numQ_is h2
  have := cspan_ok hE hl hl' hx hy cmp_gt
  simpa using this
 ·rw [if_pos h]; exact cspan_err hE hl hl' rfl h
end
/-- A slice of spans. -/
structure Pv (w : World) (A : Option Addr) (n : Nat) (ls : List (List UInt8 × List UInt8)) : Prop where
 len : ls.length = n
 at_ : 0 < n → ∃ b o, A = some ⟨b, o, none⟩ ∧ b < w.heap.size ∧ ∀ j, j < n → w.cell? ⟨b, o + j * 2, none⟩ = some (bs (ls.getD j ([], [])).1) ∧ w.cell? ⟨b, o + j * 2 + 1, none⟩ = some (bs (ls.getD j ([], [])).2)
theorem Pv.below {w w' : World} {A : Option Addr} {n : Nat} {ls : List (List UInt8 × List UInt8)} (h : Pv w A n ls) (hb : Below w.heap.size w w') : Pv w' A n ls :=
 ⟨h.len, fun hn => by
   obtain ⟨b, o, e, h1, h2⟩ := h.at_ hn
   exact ⟨b, o, e, Nat.lt_of_lt_of_le h1 hb.size, fun j hj => by rw [hb.cell (p := ⟨b, o + j * 2, none⟩) h1, hb.cell (p := ⟨b, o + j * 2 + 1, none⟩) h1]; exact h2 j hj⟩⟩
section
variable {w : World} {A : Option Addr} {n c : Nat} {ls : List (List UInt8 × List UInt8)} {f : List UInt8 × List UInt8 → Int}
theorem checkAll_spans
 (h : Pv w A n ls) (hn : n ≤ 100000) (hf : ∀ l ∈ ls, ∀ W, Below w.heap.size w W → Calls Tryz.prog 42 #[sp l.1 l.2] W fun e w' => e = .returned (.int .i64 (f l)) ∧ Below W.heap.size W w') :
 Calls Tryz.prog 41 #[.func (.func 42) #[] #[], .slice A n c] w fun e w' => e = .returned (.int .i64 (firstNZ f ls)) ∧ Below w.heap.size w w' := by
 obtain ⟨R, hR⟩ : ∃ R, firstNZ f ls = R := ⟨_, rfl⟩
 rw [hR]
 have HR := Lib.hid hR
 have H := Lib.hid h
 have HN := Lib.hid hn
 have HF := Lib.hid hf
 clear hR h hn hf
 go_enter Tryz.func41, Tryz.ntmps41
 go_wp2
 go_loopw [10] (fun u wr => ∃ (i : Nat), u = .int .i64 (i : Int) ∧ Below w.heap.size w wr ∧ i ≤ n ∧ firstNZ f (ls.drop i) = R) (fun u _ => n - (intOf u).toNat)
 case atStart => exact ⟨0, rfl, (by with_reducible repeat first | exact bR | assumption | apply bA | apply bD | apply bN | refine bC ?_ (by go_size) | refine bS ?_ ‹_›), by omega, HR.out⟩
 case round =>
  obtain ⟨i, rfl, hb, hin, hc⟩ := hrel
  by_cases hi : i < n
  ·have q0 : decide ((i : Int) < (n : Int)) = true := by simp; exact hi
   obtain ⟨b, o, rfl, hbl, hcell⟩ := (H.out.below hb).at_ (by omega)
   obtain ⟨hx, hy⟩ := hcell i hi
   have hil : i < ls.length := by rw [H.out.len]; exact hi
   rw [drop_getD (d := ([], [])) hil] at hc
   have hmem : ls.getD i ([], []) ∈ ls := by rw [List.getD_eq_getElem?_getD, List.getElem?_eq_getElem hil]; exact List.getElem_mem hil
   obtain ⟨x, hxx⟩ : ∃ x, ls.getD i ([], []) = x := ⟨_, rfl⟩
   rw [hxx] at hx hy hc hmem
   have HX : Hid (∀ W, Below wr.heap.size wr W → Calls Tryz.prog 42 #[sp x.1 x.2] W fun e w' => e = .returned (.int .i64 (f x)) ∧ Below W.heap.size W w') := Lib.hid (fun W hW => HF.out x hmem W (below_step hb hW))
   have hnn := HN.out
   have HI := Lib.hid hi
   obtain ⟨x1, hx1⟩ : ∃ y, x.1 = y := ⟨_, rfl⟩
   obtain ⟨x2, hx2⟩ : ∃ y, x.2 = y := ⟨_, rfl⟩
   rw [hx1] at hx HX
   rw [hx2] at hy HX
   clear hcell hmem hil hxx hx1 hx2
   by_cases h0 : f x = 0
   ·have HC : Hid (firstNZ f (ls.drop (i + 1)) = R) := Lib.hid (by rw [← hc, firstNZ_cons_eq h0])
    rw [h0] at HX
    clear hc h0 hi
    go_wp2_with (go_at_call 42; ((with_reducible refine (HX.out _ (by with_reducible repeat first | exact bR | assumption | apply bA | apply bD | apply bN | refine bC ?_ (by go_size) | refine bS ?_ ‹_›)).mono ?_); rintro e1 w1 ⟨rfl, hb1⟩); obtain ⟨hc1, hf1⟩ := bcell hb1; (try simp only [dw] at hc1 hf1))
    exact ⟨⟨i + 1, by simp, (by with_reducible repeat first | exact bR | assumption | apply bA | apply bD | apply bN | refine bC ?_ (by go_size) | refine bS ?_ ‹_›), HI.out, HC.out⟩, by have := HI.out; simp [intOf]; omega⟩
   ·have hR : R = f x := by rw [← hc, firstNZ_cons_ne h0]
    subst hR
    obtain ⟨y, hy'⟩ : ∃ y, f x = y := ⟨_, rfl⟩
    rw [hy'] at HX
    have q1 : (y != 0) = true := by rw [bne_iff_ne, ← hy']; exact h0
    have HY := Lib.hid hy'
    clear hc h0 hi hy' HR
    go_wp2_with (go_at_call 42; ((with_reducible refine (HX.out _ (by with_reducible repeat first | exact bR | assumption | apply bA | apply bD | apply bN | refine bC ?_ (by go_size) | refine bS ?_ ‹_›)).mono ?_); rintro e1 w1 ⟨rfl, hb1⟩); obtain ⟨hc1, hf1⟩ := bcell hb1; (try simp only [dw] at hc1 hf1))
    go_ret
    exact ⟨by rw [HY.out]; rfl, (by with_reducible repeat first | exact bR | assumption | apply bA | apply bD | apply bN | refine bC ?_ (by go_size) | refine bS ?_ ‹_›)⟩
  ·have q0 : decide (i < n) = false := by simp; omega
   rw [List.drop_eq_nil_of_le (by rw [H.out.len]; omega)] at hc
   have hR : R = 0 := by rw [← hc]; rfl
   subst hR
   clear hc hi HR
   go_wp2
   go_ret
   exact ⟨rfl, (by with_reducible repeat first | exact bR | assumption | apply bA | apply bD | apply bN | refine bC ?_ (by go_size) | refine bS ?_ ‹_›)⟩
end
end Go.Proofs.YtcocnkebpccjdaaGreatDoor
namespace Go.Proofs.YtcocnkebpccjdaaGreatDoor
open Go Go.RowKit Go.Sort

theorem add_off (g j : Nat) : (⟨g, 0, none⟩ : Addr).add j = ⟨g, j, none⟩ := by unfold Addr.add; split <;> simp_all
/-- The cells of some shares. -/
def shs (ps : List (List UInt8 × List UInt8)) : List Value := ps.flatMap fun p => [bs p.1, bs p.2]
theorem shs_append (a b : List (List UInt8 × List UInt8)) : shs (a ++ b) = shs a ++ shs b := by simp [shs]
theorem shs_at : ∀ (a : List (List UInt8 × List UInt8)) (j k : Nat), j < a.length → k < 2 → (shs a)[j * 2 + k]? = (shs [a.getD j ([], [])])[k]?
 | [], j, k, h, _ => absurd h (by simp)
 | q :: r, 0, k, _, hk => by
   rw [show shs (q :: r) = shs [q] ++ shs r from shs_append [q] r, List.getElem?_append_left (by simp [shs]; omega)]; simp
 | q :: r, j + 1, k, h, hk => by
   rw [show shs (q :: r) = shs [q] ++ shs r from shs_append [q] r, List.getElem?_append_right (by simp [shs]; omega)]
   have e : (j + 1) * 2 + k - (shs [q]).length = j * 2 + k := by simp [shs]; omega
   rw [e, shs_at r j k (by simpa using h) hk]; simp
abbrev OwnS (w : World) (base : Nat) (v : Value) (n : Nat) (ps : List (List UInt8 × List UInt8)) : Prop := w.ownsRow base 58 2 v n (shs ps)
theorem OwnS.pv {w : World} {base n : Nat} {v : Value} {ps : List (List UInt8 × List UInt8)} (h : OwnS w base v n ps) (hl : ps.length = n) (h0 : 0 < n) : ∃ A c, v = .slice A n c ∧ Pv w A n ps := by
 rcases h.2 with ⟨rfl, h1⟩ | ⟨g, cap, cur, rfl, hb, hg, hnc, hcm, hcs, ht⟩
 ·omega
 ·refine ⟨some ⟨g, 0, none⟩, cap, rfl, hl, fun _ => ⟨g, 0, rfl, (Array.getElem?_eq_some_iff.1 hg).1, fun j hj => ?_⟩⟩
  have hc := World.ownsRow.cells h (g := g) rfl
  have c (k : Nat) (hk : k < 2) (u : Value) (hu : (shs [ps.getD j ([], [])])[k]? = some u) : w.cell? ⟨g, 0 + j * 2 + k, none⟩ = some u := by
   have := hc (j * 2 + k) u (by rw [shs_at ps j k (by omega) hk, hu])
   rw [add_off] at this
   rw [Nat.zero_add]; exact this
  exact ⟨c 0 (by omega) _ rfl, c 1 (by omega) _ rfl⟩
theorem grown_of {w w' : World} (h : Below w.heap.size w w') (row : Option Nat) : w.grownBy w' row := ⟨h.os, h.tape, h.output, h.size, fun k hk _ => h.block k hk⟩
theorem OwnS.below {w w' : World} {base n : Nat} {v : Value} {ps : List (List UInt8 × List UInt8)} (h : OwnS w base v n ps) (hb : Below w.heap.size w w') : OwnS w' base v n ps :=
 World.ownsRow.kept h (grown_of hb none) (by cases hv : v.ownBlock <;> simp)
theorem share_row : (Tryz.prog.info? 58).map (fun i => (i.zero, i.size, i.bytes)) = some (some (.agg #[.string ByteArray.empty, .string ByteArray.empty]), 2, 32) := by kernel_rfl
theorem app_share {w : World} {base n b c : Nat} {v : Value} {ps : List (List UInt8 × List UInt8)} {x : List UInt8 × List UInt8} (h : OwnS w base v n ps) (hn : n ≤ 100000) (hb : base ≤ w.heap.size)
  (h0 : w.cell? ⟨b, 0, none⟩ = some (bs x.1)) (h1 : w.cell? ⟨b, 1, none⟩ = some (bs x.2)) :
  ∃ v' w', (Builtin.append_ #[51, 51] 51 #[v, .slice (some ⟨b, 0, none⟩) 1 c]).run Tryz.prog w = .ok v' w' ∧ OwnS w' base v' (n + 1) (ps ++ [x]) ∧ w.grownBy w' v.ownBlock ∧ (v'.ownBlock = v.ownBlock ∨ v'.ownBlock = some w.heap.size) := by
 obtain ⟨i, hi, hz0, hz1, hz2⟩ := info_parts share_row
 obtain ⟨v', w', hr, k1, k2, _, k3⟩ := run_append_own_at (P := Tryz.prog) w base 51 51 58 i _ 2 32 Tryz.underlying51 hi hz0 hz1 hz2 rfl (by decide) v n (shs ps) h ⟨b, 0, none⟩ 1 c (shs [x]) (by simp [shs])
  (by
    intro j u hu
    rw [add_off]
    match j, hu with
    | 0, hu => simp [shs] at hu; subst hu; exact h0
    | 1, hu => simp [shs] at hu; subst hu; exact h1
    | j + 2, hu => simp [shs] at hu)
  (by intro u hu; simp [shs] at hu; rcases hu with rfl | rfl <;> rfl)
  (by simp only [maxLen]; omega) (by omega) hb
 exact ⟨v', w', hr, by rw [OwnS, shs_append]; exact k1, k2, k3⟩
theorem app_gen {P : Program} {o : Oper} {a : Act} {K : Act → World → Prop} {Q : Exit → Act → World → Prop} {w w' : World} {v z v' : Value} {t : TypeId} (s y : Operand)
  (ho : o.op = .call { callee := .builtin .append, args := #[s, y], argTypes := #[t, t] }) (hs : a.eval s = v) (hy : a.eval y = z)
  (hr : (Builtin.append_ #[t, t] o.type #[v, z]).run P w = .ok v' w') (hK : K (a.put o.dst v') w') : o.wp P a w K Q := by
 unfold Oper.wp execOp
 simp only [ho, resolve, invoke, builtin, Sem.run_bind, Sem.run_pure, Result.andThen_ok, List.map_toArray, List.map_cons, List.map_nil, hs, hy, hr]
 exact hK
/-- An append of one share, at the operation. -/
theorem wpList_append_share {ops : Array Oper} {rest : List Oper} {o : Oper} {a : Act} {Q : Exit → Act → World → Prop} {w : World} {base n b c : Nat} {v : Value} {ps : List (List UInt8 × List UInt8)} {x : List UInt8 × List UInt8} (hg : o.guard = none) (s y : Operand)
  (ho : o.op = .call { callee := .builtin .append, args := #[s, y], argTypes := #[51, 51] }) (ht : o.type = 51) (hs : a.eval s = v) (hy : a.eval y = .slice (some ⟨b, 0, none⟩) 1 c)
  (h : OwnS w base v n ps) (hn : n ≤ 100000) (hb : base ≤ w.heap.size) (h0 : w.cell? ⟨b, 0, none⟩ = some (bs x.1)) (h1 : w.cell? ⟨b, 1, none⟩ = some (bs x.2))
  (hK : ∀ v' w', OwnS w' base v' (n + 1) (ps ++ [x]) → w.grownBy w' v.ownBlock → (v'.ownBlock = v.ownBlock ∨ v'.ownBlock = some w.heap.size) → wpList Tryz.prog ops Q rest (a.put o.dst v') w') : wpList Tryz.prog ops Q (o :: rest) a w := by
 obtain ⟨v', w', hr, k1, k2, k3⟩ := app_share h hn hb h0 h1
 refine wpList_plain hg fun K' hK' => ?_
 exact app_gen s y ho hs hy (by rw [ht]; exact hr) (hK' _ _ (hK v' w' k1 k2 k3))
theorem OwnS.slice {w : World} {base n : Nat} {v : Value} {ps : List (List UInt8 × List UInt8)} (h : OwnS w base v n ps) : ∃ A c, v = .slice A n c := by
 rcases h.2 with ⟨rfl, h1⟩ | ⟨g, cap, cur, rfl, _⟩
 ·exact ⟨none, 0, by rw [h1]⟩
 ·exact ⟨_, _, rfl⟩
/-- .. with the new slice written out. -/
theorem wpList_append_share' {ops : Array Oper} {rest : List Oper} {o : Oper} {a : Act} {Q : Exit → Act → World → Prop} {w : World} {base n b c : Nat} {v : Value} {ps : List (List UInt8 × List UInt8)} {x : List UInt8 × List UInt8} (hg : o.guard = none) (s y : Operand)
  (ho : o.op = .call { callee := .builtin .append, args := #[s, y], argTypes := #[51, 51] }) (ht : o.type = 51) (hs : a.eval s = v) (hy : a.eval y = .slice (some ⟨b, 0, none⟩) 1 c)
  (h : OwnS w base v n ps) (hn : n ≤ 100000) (hb : base ≤ w.heap.size) (h0 : w.cell? ⟨b, 0, none⟩ = some (bs x.1)) (h1 : w.cell? ⟨b, 1, none⟩ = some (bs x.2))
  (hK : ∀ A' c' w', OwnS w' base (.slice A' (n + 1) c') (n + 1) (ps ++ [x]) → w.grownBy w' v.ownBlock → ((Value.slice A' (n + 1) c').ownBlock = v.ownBlock ∨ (Value.slice A' (n + 1) c').ownBlock = some w.heap.size) → wpList Tryz.prog ops Q rest (a.put o.dst (.slice A' (n + 1) c')) w') : wpList Tryz.prog ops Q (o :: rest) a w :=
 wpList_append_share hg s y ho ht hs hy h hn hb h0 h1 (fun v' w' k1 k2 k3 => by
  obtain ⟨A', c', rfl⟩ := k1.slice
  exact hK A' c' w' k1 k2 k3)
/-- A row of names. -/
theorem names_view {w : World} {base n : Nat} {v : Value} {ks : List (List UInt8)} (h : w.ownsRow base 9 1 v n (ks.map encStr)) (hl : ks.length = n) (h0 : 0 < n) : ∃ A c, v = .slice A n c ∧ Sv w A n ks := by
 rcases h.2 with ⟨rfl, h1⟩ | ⟨g, cap, cur, rfl, hb, hg, hnc, hcm, hcs, ht⟩
 ·omega
 ·refine ⟨some ⟨g, 0, none⟩, cap, rfl, hl, fun _ => ⟨g, 0, rfl, (Array.getElem?_eq_some_iff.1 hg).1, fun j hj => ?_⟩⟩
  have hc := World.ownsRow.cells h (g := g) rfl
  have hjl : j < ks.length := by omega
  have := hc j (encStr (ks.getD j [])) (by rw [List.getElem?_map, List.getElem?_eq_getElem hjl, List.getD_eq_getElem?_getD, List.getElem?_eq_getElem hjl]; rfl)
  rw [add_off] at this
  rw [Nat.zero_add]; exact this
end Go.Proofs.YtcocnkebpccjdaaGreatDoor
namespace Go.Proofs.YtcocnkebpccjdaaGreatDoor
open Go Go.RowKit

abbrev OwnI (w : World) (base : Nat) (v : Value) (n : Nat) (zs : List Int) : Prop := w.ownsRow base 3 1 v n (zs.map (Value.int .i64))
theorem int_row : (Tryz.prog.info? 3).map (fun i => (i.zero, i.size, i.bytes)) = some (some (.int .i64 0), 1, 8) := by kernel_rfl
theorem OwnI.at_ {w : World} {base n : Nat} {v : Value} {zs : List Int} (h : OwnI w base v n zs) (hl : zs.length = n) (h0 : 0 < n) : ∃ g c, v = .slice (some ⟨g, 0, none⟩) n c ∧ g < w.heap.size ∧ ∀ j, j < n → w.cell? ⟨g, j, none⟩ = some (.int .i64 (zs.getD j 0)) := by
 rcases h.2 with ⟨rfl, h1⟩ | ⟨g, cap, cur, rfl, hb, hg, hnc, hcm, hcs, ht⟩
 ·omega
 ·refine ⟨g, cap, rfl, (Array.getElem?_eq_some_iff.1 hg).1, fun j hj => ?_⟩
  have hc := World.ownsRow.cells h (g := g) rfl
  have hjl : j < zs.length := by omega
  have := hc j (.int .i64 (zs.getD j 0)) (by rw [List.getElem?_map, List.getElem?_eq_getElem hjl, List.getD_eq_getElem?_getD, List.getElem?_eq_getElem hjl]; rfl)
  rw [add_off] at this
  exact this
theorem OwnI.iv {w : World} {base n : Nat} {v : Value} {zs : List Int} (h : OwnI w base v n zs) (hl : zs.length = n) (h0 : 0 < n) (hz : ∀ z ∈ zs, R64 z) : ∃ g c, v = .slice (some ⟨g, 0, none⟩) n c ∧ Iv w (some ⟨g, 0, none⟩) n zs := by
 obtain ⟨g, c, e, h1, h2⟩ := OwnI.at_ h hl h0
 exact ⟨g, c, e, hl, hz, fun _ => ⟨g, 0, rfl, h1, fun j hj => by rw [Nat.zero_add]; exact h2 j hj⟩⟩
theorem OwnI.below {w w' : World} {base n : Nat} {v : Value} {zs : List Int} (h : OwnI w base v n zs) (hb : Below w.heap.size w w') : OwnI w' base v n zs :=
 World.ownsRow.kept h (grown_of hb none) (by cases hv : v.ownBlock <;> simp)
theorem app_int {w : World} {base n b c : Nat} {v : Value} {zs : List Int} {x : Int} (h : OwnI w base v n zs) (hn : n ≤ 100000) (hb : base ≤ w.heap.size) (h0 : w.cell? ⟨b, 0, none⟩ = some (.int .i64 x)) :
  ∃ v' w', (Builtin.append_ #[22, 22] 22 #[v, .slice (some ⟨b, 0, none⟩) 1 c]).run Tryz.prog w = .ok v' w' ∧ OwnI w' base v' (n + 1) (zs ++ [x]) ∧ w.grownBy w' v.ownBlock := by
 obtain ⟨i, hi, hz0, hz1, hz2⟩ := info_parts int_row
 obtain ⟨v', w', hr, k1, k2, _, _⟩ := run_append_own_at (P := Tryz.prog) w base 22 22 3 i _ 1 8 Tryz.underlying22 hi hz0 hz1 hz2 rfl (by decide) v n (zs.map (Value.int .i64)) h ⟨b, 0, none⟩ 1 c [.int .i64 x] (by simp)
  (by
    intro j u hu
    rw [add_off]
    match j, hu with
    | 0, hu => simp at hu; subst hu; exact h0
    | j + 1, hu => simp at hu)
  (by intro u hu; simp at hu; subst hu; rfl)
  (by simp only [maxLen]; omega) (by omega) hb
 exact ⟨v', w', hr, by rw [OwnI, List.map_append]; exact k1, k2⟩
theorem wpList_append_int {ops : Array Oper} {rest : List Oper} {o : Oper} {a : Act} {Q : Exit → Act → World → Prop} {w : World} {base n b c : Nat} {v : Value} {zs : List Int} {x : Int} (hg : o.guard = none) (s y : Operand)
  (ho : o.op = .call { callee := .builtin .append, args := #[s, y], argTypes := #[22, 22] }) (ht : o.type = 22) (hs : a.eval s = v) (hy : a.eval y = .slice (some ⟨b, 0, none⟩) 1 c)
  (h : OwnI w base v n zs) (hl : zs.length = n) (hn : n ≤ 100000) (hb : base ≤ w.heap.size) (h0 : w.cell? ⟨b, 0, none⟩ = some (.int .i64 x))
  (hK : ∀ g c' w', OwnI w' base (.slice (some ⟨g, 0, none⟩) (n + 1) c') (n + 1) (zs ++ [x]) → (∀ j, j < n + 1 → w'.cell? ⟨g, j, none⟩ = some (.int .i64 ((zs ++ [x]).getD j 0))) → w.grownBy w' v.ownBlock → wpList Tryz.prog ops Q rest (a.put o.dst (.slice (some ⟨g, 0, none⟩) (n + 1) c')) w') : wpList Tryz.prog ops Q (o :: rest) a w := by
 obtain ⟨v', w', hr, k1, k2⟩ := app_int h hn hb h0
 obtain ⟨g, c', rfl, _, hc⟩ := OwnI.at_ k1 (by simp [hl]) (by omega)
 refine wpList_plain hg fun K' hK' => ?_
 exact app_gen s y ho hs hy (by rw [ht]; exact hr) (hK' _ _ (hK g c' w' k1 hc k2))
/-- A slice of 16-bit integers. -/
structure Hv (w : World) (A : Option Addr) (n : Nat) (us : List Nat) : Prop where
 len : us.length = n
 rng : ∀ u ∈ us, u < 65536
 at_ : 0 < n → ∃ b o, A = some ⟨b, o, none⟩ ∧ b < w.heap.size ∧ ∀ j, j < n → w.cell? ⟨b, o + j, none⟩ = some (.int .u16 ((us.getD j 0 : Nat) : Int))
theorem Hv.below {w w' : World} {A : Option Addr} {n : Nat} {us : List Nat} (h : Hv w A n us) (hb : Below w.heap.size w w') : Hv w' A n us :=
 ⟨h.len, h.rng, fun hn => by
   obtain ⟨b, o, e, h1, h2⟩ := h.at_ hn
   exact ⟨b, o, e, Nat.lt_of_lt_of_le h1 hb.size, fun j hj => by rw [hb.cell (p := ⟨b, o + j, none⟩) h1]; exact h2 j hj⟩⟩
/-- The weights of the law. -/
def wz (us : List Nat) : List Int := us.map fun u => ((u % 1001 : Nat) : Int)
theorem wz_len (us : List Nat) : (wz us).length = us.length := by simp [wz]
theorem wz_at (us : List Nat) (j : Nat) : (wz us).getD j 0 = ((us.getD j 0 % 1001 : Nat) : Int) := by
 unfold wz
 rw [List.getD_eq_getElem?_getD, List.getD_eq_getElem?_getD, List.getElem?_map]
 cases us[j]? <;> simp
theorem wz_rng (us : List Nat) (j : Nat) : 0 ≤ (wz us).getD j 0 ∧ (wz us).getD j 0 ≤ 1000 := by rw [wz_at]; omega
theorem wz_mem {us : List Nat} {z : Int} (h : z ∈ wz us) : 0 ≤ z ∧ z ≤ 1000 := by
 unfold wz at h
 obtain ⟨u, _, rfl⟩ := List.mem_map.1 h
 omega
theorem cwGo_ok : ∀ {ws : List Int} {s : Int}, (∀ x ∈ ws, 0 ≤ x ∧ x ≤ 999999999) → cwGo s ws = if s + ws.sum = 0 then (0, 6) else (s + ws.sum, 0)
 | [], s, _ => by unfold cwGo; simp
 | x :: r, s, h => by
   have hx := h x (List.mem_cons_self ..)
   unfold cwGo
   rw [if_neg (by omega), cwGo_ok (fun y hy => h y (List.mem_cons_of_mem _ hy)), List.sum_cons, Int.add_assoc]
theorem sumTo_take (ws : List Int) : ∀ n, n ≤ ws.length → App.sumTo (fun j => ws.getD j 0) n = (ws.take n).sum
 | 0, _ => by simp [App.sumTo]
 | n + 1, h => by
   rw [App.sumTo, sumTo_take ws n (by omega), List.take_add_one, List.sum_append, List.getD_eq_getElem?_getD, List.getElem?_eq_getElem (by omega)]
   simp
theorem cw_wz (us : List Nat) : cw (wz us) = if App.sumTo (fun j => (wz us).getD j 0) us.length = 0 then (0, 6) else (App.sumTo (fun j => (wz us).getD j 0) us.length, 0) := by
 unfold cw
 rw [cwGo_ok (fun x hx => by have := wz_mem hx; omega), sumTo_take _ _ (by rw [wz_len]; exact Nat.le_refl _), List.take_of_length_le (by rw [wz_len]; exact Nat.le_refl _), Int.zero_add]
end Go.Proofs.YtcocnkebpccjdaaGreatDoor
namespace Go.Proofs.YtcocnkebpccjdaaGreatDoor
open Go Go.ChangeShapes Go.WideShapes Go.ChangeAt Go.RowKit

theorem own : ownKnob Tryz.prog.godebug = none := by kernel_rfl
theorem laidOut : laidOutB Tryz.prog = true := by kernel_rfl
theorem gPow : Tryz.prog.globalNamed "internal/strconv.uint64pow10" = some 7 := by kernel_rfl
theorem gPowType : (Tryz.prog.globals[7]?).map (·.type) = some 240 := by kernel_rfl
theorem cellsPow : Tryz.prog.cellsOf 240 = 20 := by kernel_rfl
theorem cellsU64 : Tryz.prog.cellsOf 152 = 1 := by kernel_rfl
theorem cellsU16 : Tryz.prog.cellsOf 35 = 1 := by kernel_rfl
theorem laidMetH.plain {l : List (String × DataW Unit)} {W : World} (h : laidMetH Tryz.prog l W) (hp : (l.all fun x => x.2.handleName?.isNone) = true) : laidMet Tryz.prog l W := by
 rw [MakeChecks.laidMetH_plain _ _ _ hp] at h; exact h
theorem env_of {W : World} {l : List (String × DataW Unit)} (h : laidMet Tryz.prog (("internal/strconv.uint64pow10", Rows.laid_internal_strconv_uint64pow10) :: l) W) (hs : W.ShapedOpen Tryz.prog) : Env W := by
 obtain ⟨m, hm⟩ := Go.Proofs.cell_of_shapedOpen_int (g := 0) (zero := #[.int .i64 0]) (t := 3) hs (of_decide_eq_true (by kernel_rfl)) (by kernel_rfl) rfl (by kernel_rfl) (by kernel_rfl) Tryz.underlying3
 exact ⟨Lib.tabBelow_of_tabIs (Lib.tabIs_of_head (zs := Lib.pow10Tab) gPow gPowType Tryz.underlying240 Tryz.underlying152 cellsU64 cellsPow h), ⟨m, hm⟩, World.block_lt_of_cell? W ⟨0, 0, none⟩ hm⟩
theorem open_u16 {H : Type} {enc : TypeId × Value → H} {W : World} {A : Option Addr} {n c fuel : Nat} {x : DataW H × List MemPlace} (h : DataW.trod enc Tryz.prog W 0 (fun _ => true) true fuel 34 [.slice A n c] = some x) : ∃ us, Hv W A n us := by
 rcases open_ints Tryz.underlying34 Tryz.underlying35 cellsU16 h with ⟨hcs, _⟩ | ⟨a, len, cap, zs, hcs, _, hl, hm, hz, _, hcell, hwf⟩
 ·simp at hcs
  obtain ⟨rfl, rfl, rfl⟩ := hcs
  exact ⟨[], rfl, fun u hu => by simp at hu, fun h => by omega⟩
 ·simp at hcs
  obtain ⟨rfl, rfl, rfl⟩ := hcs
  simp only [if_true] at hz
  obtain ⟨b, off, spot⟩ := a
  have hr : ∀ z ∈ zs, 0 ≤ z ∧ z ≤ 65535 := fun z h => by simpa [Lit.wf, IntKind.min, IntKind.max, IntKind.signed, IntKind.bits] using hwf z h
  refine ⟨(zs.take n).map Int.toNat, by simp; omega, fun u hu => ?_, fun h0 => ?_⟩
  ·obtain ⟨z, hz, rfl⟩ := List.mem_map.1 hu
   have := hr z (List.mem_of_mem_take hz)
   omega
  ·have hspot : spot = none := by simpa [Addr.add] using World.cell?_spot (hcell 0 (by omega))
   subst hspot
   refine ⟨b, off, rfl, World.block_lt_of_cell? W _ (hcell 0 (by omega)), fun j hj => ?_⟩
   have hjz : j < zs.length := by omega
   have := hcell j hjz
   rw [add_plain] at this
   rw [this]
   have hz := hr zs[j] (List.getElem_mem hjz)
   simp [List.getD_eq_getElem?_getD, List.getElem?_take_of_lt hj, List.getElem?_eq_getElem hjz]
   omega
theorem cellsInt : Tryz.prog.cellsOf 3 = 1 := by kernel_rfl
theorem open_i64 {H : Type} {enc : TypeId × Value → H} {W : World} {A : Option Addr} {n c fuel : Nat} {x : DataW H × List MemPlace} (h : DataW.trod enc Tryz.prog W 0 (fun _ => true) true fuel 22 [.slice A n c] = some x) : ∃ zs, Iv W A n zs := by
 rcases open_ints Tryz.underlying22 Tryz.underlying3 cellsInt h with ⟨hcs, _⟩ | ⟨a, len, cap, zs, hcs, _, hl, hm, hz, _, hcell, hwf⟩
 ·simp at hcs
  obtain ⟨rfl, rfl, rfl⟩ := hcs
  exact ⟨[], rfl, fun u hu => by simp at hu, fun h => by omega⟩
 ·simp at hcs
  obtain ⟨rfl, rfl, rfl⟩ := hcs
  simp only [if_true] at hz
  obtain ⟨b, off, spot⟩ := a
  have hr : ∀ z ∈ zs, R64 z := fun z h => by
   have := hwf z h
   simp [Lit.wf, IntKind.min, IntKind.max, IntKind.signed, IntKind.bits] at this
   exact ⟨by omega, by omega⟩
  refine ⟨zs.take n, by simp; omega, fun u hu => hr u (List.mem_of_mem_take hu), fun h0 => ?_⟩
  have hspot : spot = none := by simpa [Addr.add] using World.cell?_spot (hcell 0 (by omega))
  subst hspot
  refine ⟨b, off, rfl, World.block_lt_of_cell? W _ (hcell 0 (by omega)), fun j hj => ?_⟩
  have hjz : j < zs.length := by omega
  have := hcell j hjz
  rw [add_plain] at this
  rw [this]
  simp [List.getD_eq_getElem?_getD, List.getElem?_take_of_lt hj, List.getElem?_eq_getElem hjz]
end Go.Proofs.YtcocnkebpccjdaaGreatDoor
