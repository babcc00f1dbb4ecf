/- Spans: the contracts of checking one, and of checking all of some. -/
import Derived.Test.YtoccfcpggomlaaaGreatDoorMo
set_option linter.unusedSimpArgs false
set_option linter.unusedVariables false
set_option maxRecDepth 100000
set_option maxHeartbeats 8000000
namespace Go.Proofs.YtoccfcpggomlaaaGreatDoor
open Go Go.RowKit

/-- What is wrong with a span (0: nothing). -/
noncomputable def chkSpan (p : List UInt8 × List UInt8) : Int := if firstNZ chk [p.1, p.2] ≠ 0 then firstNZ chk [p.1, p.2] else if numQ p.2 < numQ p.1 then 11 else 0
theorem first_two {a b : List UInt8} (h : firstNZ chk [a, b] = 0) : chk a = 0 ∧ chk b = 0 := by
 unfold firstNZ at h
 by_cases h1 : chk a = 0
 ·rw [if_pos h1] at h
  unfold firstNZ at h
  by_cases h2 : chk b = 0
  ·exact ⟨h1, h2⟩
  ·rw [if_neg h2] at h; exact absurd h h2
 ·rw [if_neg h1] at h; exact absurd h h1
theorem cmp_gt {x y : Rat} : decide (Rq.cmpQ x y > 0) = decide (y < x) := by
 rw [decide_eq_decide]; exact Rq.cmp_pos
theorem Sv.twoAt {w : World} {t : TypeId} {k l : List UInt8} {b : Nat} (hb : b = w.heap.size) : Sv (w.alloc (.cells #[bs k, bs l] t)) (some ⟨b, 0, none⟩) 2 [k, l] := by
 subst hb; exact Sv.two w t k l
section
variable {w : World} {a b : List UInt8} {x y : Rat}
theorem checkTwo_fact {w : World} {a b : List UInt8} {A : Option Addr} {n c : Nat} {k : Int} (hk : firstNZ chk [a, b] = k) (hE : Env w) (hs : Sv w A n [a, b]) (hn : n ≤ 100000) (hl : a.length < 4294967281) (hl' : b.length < 4294967281) :
  Calls Tryz.prog 67 #[.func (.func 52) #[] #[], .slice A n c] w fun e w' => e = .returned (.int .i64 k) ∧ Below w.heap.size w w' := by
 subst hk
 exact checkAll_nums (c := c) (f := chk) hs hn (fun l hm V hV => by
  have hl2 : l.length < 4294967281 := by
   rcases List.mem_cons.1 hm with rfl | hm
   ·exact hl
   ·rcases List.mem_cons.1 hm with rfl | hm
    ·exact hl'
    ·cases hm
  exact check_num (hE.below hV) hl2)
theorem cspan_err {k : Int} (hE : Env w) (hl : a.length < 4294967281) (hl' : b.length < 4294967281) (hk : firstNZ chk [a, b] = k) (h0 : k ≠ 0) : Calls Tryz.prog 57 #[sp a b] w fun e w' => e = .returned (.int .i64 k) ∧ Below w.heap.size w w' := by
 have HE := qh hE
 have HL := qh hl
 have HL' := qh hl'
 have HK := qh hk
 have q1 : (k != 0) = true := by rw [bne_iff_ne]; exact h0
 clear hE hl hl' hk h0
 go_enter Tryz.func57, Tryz.ntmps57
 go_wp2_with (go_at_call 67; ((with_reducible refine (checkTwo_fact HK.out (HE.out.below (bq (by with_reducible repeat' first | assumption | constructor | go_size))) (Sv.twoAt (by simp)) (by omega) HL.out HL'.out).mono ?_); rintro e1 w1 ⟨rfl, hb1⟩); obtain ⟨hc1, hf1⟩ := bcell hb1; (try simp only [dw] at hc1 hf1))
 go_ret
 exact ⟨rfl, (bq (by with_reducible repeat' first | assumption | constructor | go_size))⟩
theorem cspan_ok {g : Bool} (hE : Env w) (hl : a.length < 4294967281) (hl' : b.length < 4294967281) (ha : IsNum a x) (hb : IsNum b y) (hg : decide (Rq.cmpQ x y > 0) = g) : Calls Tryz.prog 57 #[sp a b] w fun e w' => e = .returned (.int .i64 (if g then 11 else 0)) ∧ Below w.heap.size w w' := by
 have HE := qh hE
 have HL := qh hl
 have HL' := qh hl'
 have HK : Hid (firstNZ chk [a, b] = 0) := qh (by simp [firstNZ, chk_zero.2 ⟨x, ha⟩, chk_zero.2 ⟨y, hb⟩])
 have HA := qh ha
 have HB := qh hb
 have HSA := qh ha.sz
 have HSB := qh hb.sz
 obtain ⟨z, hz⟩ : ∃ z, Rq.cmpQ x y = z := ⟨_, rfl⟩
 have HZ := qh hz
 rw [hz] at hg
 clear hE hl hl' ha hb hz
 cases g
 all_goals
  go_enter Tryz.func57, Tryz.ntmps57
  go_wp2_with (first
   | (go_at_call 67; ((with_reducible refine (checkTwo_fact HK.out (HE.out.below (bq (by with_reducible repeat' first | assumption | constructor | go_size))) (Sv.twoAt (by simp)) (by omega) HL.out HL'.out).mono ?_); rintro e1 w1 ⟨rfl, hb1⟩); obtain ⟨hc1, hf1⟩ := bcell hb1; (try simp only [dw] at hc1 hf1); have hz1_0 : w.heap.size < w1.heap.size := szl hb1 (by go_size))
   | (go_at_call 58; ((with_reducible refine (of_span (HE.out.below (bq (by with_reducible repeat' first | assumption | constructor | go_size))) HA.out HB.out).mono ?_); rintro e2 w2 ⟨s2, A2, n2, c2, t2, B2, m2, d2, u2, C2, i2, k2, v2, D2, j2, l2, rfl, ⟨hr2, hq2⟩, ⟨hu2, hv2⟩, hb2⟩); obtain ⟨hc2, hf2⟩ := bcell hb2; (try simp only [dw] at hc2 hf2); have hz2_0 : w.heap.size < w2.heap.size := szl hb2 (by go_size))
   | (go_at_call 36; ((with_reducible refine (fcmp_fact 600 600 HZ.out ⟨(by with_reducible repeat first | assumption | apply rD | apply rN | apply rA | refine rP ?_ rfl (by simp [go_sem, hc2]) | refine rB ?_ ‹_›), (by with_reducible repeat first | assumption | apply rD | apply rN | apply rA | refine rP ?_ rfl (by simp [go_sem, hc2]) | refine rB ?_ ‹_›)⟩ ⟨(by with_reducible repeat first | assumption | apply rD | apply rN | apply rA | refine rP ?_ rfl (by simp [go_sem, hc2]) | refine rB ?_ ‹_›), (by with_reducible repeat first | assumption | apply rD | apply rN | apply rA | refine rP ?_ rfl (by simp [go_sem, hc2]) | refine rB ?_ ‹_›)⟩ HSA.out HSB.out (by omega)).mono ?_); rintro e3 w3 ⟨rfl, hb3⟩); obtain ⟨hc3, hf3⟩ := bcell hb3; (try simp only [dw] at hc3 hf3)))
  go_ret
  exact ⟨rfl, (bq (by with_reducible repeat' first | assumption | constructor | go_size))⟩
theorem cspan_num (hE : Env w) (hl : a.length < 4294967281) (hl' : b.length < 4294967281) : Calls Tryz.prog 57 #[sp a b] w fun e w' => e = .returned (.int .i64 (chkSpan (a, b))) ∧ Below w.heap.size w w' := by
 unfold chkSpan
 by_cases h : firstNZ chk [a, b] = 0
 ·rw [if_neg (by simpa using h)]
  obtain ⟨h1, h2⟩ := first_two h
  have hx := numQ_is h1
  have hy := numQ_is h2
  have := cspan_ok hE hl hl' hx hy cmp_gt
  simpa using this
 ·rw [if_pos h]; exact cspan_err hE hl hl' rfl h
end
/-- A slice of spans. -/
structure Pv (w : World) (A : Option Addr) (n : Nat) (ls : List (List UInt8 × List UInt8)) : Prop where
 len : ls.length = n
 at_ : 0 < n → ∃ b o, A = some ⟨b, o, none⟩ ∧ b < w.heap.size ∧ ∀ j, j < n → w.cell? ⟨b, o + j * 2, none⟩ = some (bs (ls.getD j ([], [])).1) ∧ w.cell? ⟨b, o + j * 2 + 1, none⟩ = some (bs (ls.getD j ([], [])).2)
theorem Pv.below {w w' : World} {A : Option Addr} {n : Nat} {ls : List (List UInt8 × List UInt8)} (h : Pv w A n ls) (hb : Below w.heap.size w w') : Pv w' A n ls :=
 ⟨h.len, fun hn => by
   obtain ⟨b, o, e, h1, h2⟩ := h.at_ hn
   exact ⟨b, o, e, Nat.lt_of_lt_of_le h1 hb.size, fun j hj => by rw [hb.cell (p := ⟨b, o + j * 2, none⟩) h1, hb.cell (p := ⟨b, o + j * 2 + 1, none⟩) h1]; exact h2 j hj⟩⟩
section
variable {w : World} {A : Option Addr} {n c : Nat} {ls : List (List UInt8 × List UInt8)} {f : List UInt8 × List UInt8 → Int}
theorem checkAll_spans
 (h : Pv w A n ls) (hn : n ≤ 100000) (hf : ∀ l ∈ ls, ∀ W, Below w.heap.size w W → Calls Tryz.prog 57 #[sp l.1 l.2] W fun e w' => e = .returned (.int .i64 (f l)) ∧ Below W.heap.size W w') :
 Calls Tryz.prog 56 #[.func (.func 57) #[] #[], .slice A n c] w fun e w' => e = .returned (.int .i64 (firstNZ f ls)) ∧ Below w.heap.size w w' := by
 obtain ⟨R, hR⟩ : ∃ R, firstNZ f ls = R := ⟨_, rfl⟩
 rw [hR]
 have HR := qh hR
 have H := qh h
 have HN := qh hn
 have HF := qh hf
 clear hR h hn hf
 go_enter Tryz.func56, Tryz.ntmps56
 go_wp2
 go_loopw [10] (fun u wr => ∃ (i : Nat), u = .int .i64 (i : Int) ∧ Below w.heap.size w wr ∧ i ≤ n ∧ firstNZ f (ls.drop i) = R) (fun u _ => n - (intOf u).toNat)
 case atStart => exact ⟨0, rfl, (bq (by with_reducible repeat' first | assumption | constructor | go_size)), by omega, HR.out⟩
 case round =>
  obtain ⟨i, rfl, hb, hin, hc⟩ := hrel
  by_cases hi : i < n
  ·have q0 : decide ((i : Int) < (n : Int)) = true := by simp; exact hi
   obtain ⟨b, o, rfl, hbl, hcell⟩ := (H.out.below hb).at_ (by omega)
   obtain ⟨hx, hy⟩ := hcell i hi
   have hil : i < ls.length := by rw [H.out.len]; exact hi
   rw [drop_getD (d := ([], [])) hil] at hc
   have hmem : ls.getD i ([], []) ∈ ls := by rw [List.getD_eq_getElem?_getD, List.getElem?_eq_getElem hil]; exact List.getElem_mem hil
   obtain ⟨x, hxx⟩ : ∃ x, ls.getD i ([], []) = x := ⟨_, rfl⟩
   rw [hxx] at hx hy hc hmem
   have HX : Hid (∀ W, Below wr.heap.size wr W → Calls Tryz.prog 57 #[sp x.1 x.2] W fun e w' => e = .returned (.int .i64 (f x)) ∧ Below W.heap.size W w') := qh (fun W hW => HF.out x hmem W (below_step hb hW))
   have hnn := HN.out
   have HI := qh hi
   obtain ⟨x1, hx1⟩ : ∃ y, x.1 = y := ⟨_, rfl⟩
   obtain ⟨x2, hx2⟩ : ∃ y, x.2 = y := ⟨_, rfl⟩
   rw [hx1] at hx HX
   rw [hx2] at hy HX
   clear hcell hmem hil hxx hx1 hx2
   by_cases h0 : f x = 0
   ·have HC : Hid (firstNZ f (ls.drop (i + 1)) = R) := qh (by rw [← hc, firstNZ_cons_eq h0])
    rw [h0] at HX
    clear hc h0 hi
    go_wp2_with (go_at_call 57; ((with_reducible refine (HX.out _ (bq (by with_reducible repeat' first | assumption | constructor | go_size))).mono ?_); rintro e1 w1 ⟨rfl, hb1⟩); obtain ⟨hc1, hf1⟩ := bcell hb1; (try simp only [dw] at hc1 hf1))
    exact ⟨⟨i + 1, by simp, (bq (by with_reducible repeat' first | assumption | constructor | go_size)), HI.out, HC.out⟩, by have := HI.out; simp [intOf]; omega⟩
   ·have hR : R = f x := by rw [← hc, firstNZ_cons_ne h0]
    subst hR
    obtain ⟨y, hy'⟩ : ∃ y, f x = y := ⟨_, rfl⟩
    rw [hy'] at HX
    have q1 : (y != 0) = true := by rw [bne_iff_ne, ← hy']; exact h0
    have HY := qh hy'
    clear hc h0 hi hy' HR
    go_wp2_with (go_at_call 57; ((with_reducible refine (HX.out _ (bq (by with_reducible repeat' first | assumption | constructor | go_size))).mono ?_); rintro e1 w1 ⟨rfl, hb1⟩); obtain ⟨hc1, hf1⟩ := bcell hb1; (try simp only [dw] at hc1 hf1))
    go_ret
    exact ⟨by rw [HY.out]; rfl, (bq (by with_reducible repeat' first | assumption | constructor | go_size))⟩
  ·have q0 : decide (i < n) = false := by simp; omega
   rw [List.drop_eq_nil_of_le (by rw [H.out.len]; omega)] at hc
   have hR : R = 0 := by rw [← hc]; rfl
   subst hR
   clear hc hi HR
   go_wp2
   go_ret
   exact ⟨rfl, (bq (by with_reducible repeat' first | assumption | constructor | go_size))⟩
end
end Go.Proofs.YtoccfcpggomlaaaGreatDoor
