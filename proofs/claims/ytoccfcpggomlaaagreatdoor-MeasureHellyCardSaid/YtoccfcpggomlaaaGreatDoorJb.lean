/- The reference's spans: a number in a span, checking a span, and few spans of few digits. -/
import Derived.Test.YtoccfcpggomlaaaGreatDoorJa
import Derived.Test.YtoccfcpggomlaaaGreatDoorMw
set_option linter.unusedSimpArgs false
set_option linter.unusedVariables false
set_option maxRecDepth 100000
set_option maxHeartbeats 8000000
namespace Go.Proofs.YtoccfcpggomlaaaGreatDoor
open Go Go.RowKit

theorem cmp_le {x y : Rat} : Rq.cmpQ x y ≤ 0 ↔ x ≤ y := by
 rw [← Rat.not_lt, ← Rq.cmp_pos]; omega
section
variable {w : World} {a l h : List UInt8} {x lo hi : Rat}
theorem in_num {b : Bool} (hb : (decide (lo ≤ x) && decide (x ≤ hi)) = b) (ha : a = tq x) (hl : l = tq lo) (hh : h = tq hi) (sx : Sm x) (sl : Sm lo) (sh : Sm hi) :
  Calls Tryz.prog 17 #[bs a, sp l h] w fun e w' => e = .returned (.bool b) ∧ Below w.heap.size w w' := by
 obtain ⟨g1, hg1⟩ : ∃ g, Rq.cmpQ lo x = g := ⟨_, rfl⟩
 obtain ⟨g2, hg2⟩ : ∃ g, Rq.cmpQ x hi = g := ⟨_, rfl⟩
 have e1 : decide (lo ≤ x) = decide (g1 ≤ 0) := by rw [decide_eq_decide, ← hg1, cmp_le]
 have e2 : decide (x ≤ hi) = decide (g2 ≤ 0) := by rw [decide_eq_decide, ← hg2, cmp_le]
 have H1 := qh (fun W => cmp_sm (w := W) hg1 hl ha sl sx)
 have H2 := qh (fun W => cmp_sm (w := W) hg2 ha hh sx sh)
 rw [e1, e2] at hb
 subst hb
 clear e1 e2 hg1 hg2 ha hl hh sx sl sh
 by_cases c1 : g1 ≤ 0
 ·have q1 : decide (g1 ≤ 0) = true := by simpa using c1
  rw [q1, Bool.true_and]
  clear c1
  go_enter Tryz.func17, Tryz.ntmps17
  go_wp2_with (first | (go_at_call 18; (with_reducible show Calls _ _ #[bs l, bs a] _ _); ((with_reducible refine (H1.out _).mono ?_); rintro e1 w1 ⟨rfl, hb1⟩); obtain ⟨hc1, hf1⟩ := bcell hb1; (try simp only [dw] at hc1 hf1); have hz1_0 : w.heap.size < w1.heap.size := szl hb1 (by go_size)) | (go_at_call 18; (with_reducible show Calls _ _ #[bs a, bs h] _ _); ((with_reducible refine (H2.out _).mono ?_); rintro e2 w2 ⟨rfl, hb2⟩); obtain ⟨hc2, hf2⟩ := bcell hb2; (try simp only [dw] at hc2 hf2); have hz2_0 : w.heap.size < w2.heap.size := szl hb2 (by go_size)))
  go_ret
  exact ⟨rfl, (bq (by with_reducible repeat' first | assumption | constructor | go_size))⟩
 ·have q1 : decide (g1 ≤ 0) = false := by simpa using c1
  rw [q1, Bool.false_and]
  clear c1
  go_enter Tryz.func17, Tryz.ntmps17
  go_wp2_with (first | (go_at_call 18; ((with_reducible refine (H1.out _).mono ?_); rintro e1 w1 ⟨rfl, hb1⟩); obtain ⟨hc1, hf1⟩ := bcell hb1; (try simp only [dw] at hc1 hf1); have hz1_0 : w.heap.size < w1.heap.size := szl hb1 (by go_size)))
  go_ret
  exact ⟨rfl, (bq (by with_reducible repeat' first | assumption | constructor | go_size))⟩
theorem rspan_ok (hle : lo ≤ hi) (hl : l = tq lo) (hh : h = tq hi) (sl : Sm lo) (sh : Sm hi) (h1 : l.length ≤ 18) (h2 : h.length ≤ 18) :
  Calls Tryz.prog 16 #[sp l h] w fun e w' => e = .returned (.int .i64 0) ∧ Below w.heap.size w w' := by
 obtain ⟨g, hg⟩ : ∃ g, Rq.cmpQ lo hi = g := ⟨_, rfl⟩
 have q1 : decide (0 < g) = false := by rw [decide_eq_false_iff_not, ← hg, Rq.cmp_pos]; exact Rat.not_lt.2 hle
 have H1 := qh (fun W => cmp_sm (w := W) hg hl hh sl sh)
 have H2 := qh (fun W => rcheck_num (w := W) (l := l) (k := 0) (chk_zero.2 ⟨lo, hl ▸ sl.is⟩) h1)
 have H3 := qh (fun W => rcheck_num (w := W) (l := h) (k := 0) (chk_zero.2 ⟨hi, hh ▸ sh.is⟩) h2)
 clear hle hl hh sl sh h1 h2 hg
 go_enter Tryz.func16, Tryz.ntmps16
 go_wp2_with (first | (go_at_call 38; (with_reducible show Calls _ _ #[bs l] _ _); ((with_reducible refine (H2.out _).mono ?_); rintro e1 w1 ⟨rfl, hb1⟩); obtain ⟨hc1, hf1⟩ := bcell hb1; (try simp only [dw] at hc1 hf1); have hz1_0 : w.heap.size < w1.heap.size := szl hb1 (by go_size)) | (go_at_call 38; (with_reducible show Calls _ _ #[bs h] _ _); ((with_reducible refine (H3.out _).mono ?_); rintro e2 w2 ⟨rfl, hb2⟩); obtain ⟨hc2, hf2⟩ := bcell hb2; (try simp only [dw] at hc2 hf2); have hz2_0 : w.heap.size < w2.heap.size := szl hb2 (by go_size)) | (go_at_call 18; ((with_reducible refine (H1.out _).mono ?_); rintro e3 w3 ⟨rfl, hb3⟩); obtain ⟨hc3, hf3⟩ := bcell hb3; (try simp only [dw] at hc3 hf3); have hz3_0 : w.heap.size < w3.heap.size := szl hb3 (by go_size)))
 go_ret
 exact ⟨rfl, (bq (by with_reducible repeat' first | assumption | constructor | go_size))⟩
end
/-- All spans have few digits, and their ends are in order. -/
noncomputable def fewS (d : Int) (p : List UInt8 × List UInt8) : Bool := few d p.1 && (few d p.2 && decide (numQ p.1 ≤ numQ p.2))
theorem few_cmp {x1 x2 : List UInt8} {d : Int} (h8 : d ≤ 8) (h1 : few d x1 = true) (h2 : few d x2 = true) :
  ∃ g : Int, Hid (∀ W, Calls Tryz.prog 18 #[bs x1, bs x2] W fun e w' => e = .returned (.int .i64 g) ∧ Below W.heap.size W w') ∧ Hid (decide (numQ x1 ≤ numQ x2) = !decide (0 < g)) := by
 obtain ⟨y1, hy1⟩ := few_true h1
 obtain ⟨y2, hy2⟩ := few_true h2
 refine ⟨Rq.cmpQ y1 y2, fun W => cmp_sm (w := W) rfl hy1.eq hy2.eq (hy1.sm (by omega)) (hy2.sm (by omega)), ?_⟩
 show decide (numQ x1 ≤ numQ x2) = !decide (0 < Rq.cmpQ y1 y2)
 rw [(hy1.is (by omega)).numQ, (hy2.is (by omega)).numQ, decide_eq_decide.2 Rq.cmp_pos, ← decide_not, decide_eq_decide, Rat.not_lt]
section
variable {w : World} {A : Option Addr} {n c : Nat} {ls : List (List UInt8 × List UInt8)} {d m : Int}
theorem fewspans_many (hm : m < (n : Int)) : Calls Tryz.prog 12 #[.slice A n c, .int .i64 m, .int .i64 d] w fun e w' => e = .returned (.bool false) ∧ Below w.heap.size w w' := by
 have q1 : decide (m < (n : Int)) = true := by simpa using hm
 clear hm
 go_enter Tryz.func12, Tryz.ntmps12
 go_wp2
 go_ret
 exact ⟨rfl, (bq (by with_reducible repeat' first | assumption | constructor | go_size))⟩
theorem fewspans_num {r : Bool} (hr : ls.all (fewS d) = r) (h : Pv w A n ls) (hm : (n : Int) ≤ m) (hn : n ≤ 100000) (h0 : 0 ≤ d) (h8 : d ≤ 8) :
  Calls Tryz.prog 12 #[.slice A n c, .int .i64 m, .int .i64 d] w fun e w' => e = .returned (.bool r) ∧ Below w.heap.size w w' := by
 have q1 : decide (m < (n : Int)) = false := by rw [decide_eq_false_iff_not]; omega
 have H := qh h
 have HN := qh hn
 have HD := qh (And.intro h0 h8)
 have HR := qh hr
 clear hm h hn h0 h8 hr
 go_enter Tryz.func12, Tryz.ntmps12
 go_wp2
 go_loopw [7] (fun u wr => ∃ (i : Nat), u = .int .i64 (i : Int) ∧ i ≤ n ∧ Below w.heap.size w wr ∧ (ls.drop i).all (fewS d) = r) (fun u _ => n - (intOf u).toNat)
 case atStart => exact ⟨0, rfl, Nat.zero_le _, (bq (by with_reducible repeat' first | assumption | constructor | go_size)), HR.out⟩
 case round =>
  obtain ⟨i, rfl, hin, hb, hc⟩ := hrel
  have hnn := HN.out
  by_cases hi : i < n
  ·have p0 : decide (i < n) = true := by simpa using hi
   obtain ⟨b, o, rfl, hbl, hat⟩ := (H.out.below hb).at_ (by omega)
   obtain ⟨k0, k1⟩ := hat i hi
   have hil : i < ls.length := by rw [H.out.len]; exact hi
   rw [drop_getD (d := ([], [])) hil, List.all_cons] at hc
   obtain ⟨⟨x1, x2⟩, hx⟩ : ∃ x, ls.getD i ([], []) = x := ⟨_, rfl⟩
   rw [hx] at k0 k1 hc
   dsimp only at k0 k1
   have HII := qh hi
   have HC := qh hc
   obtain ⟨f1, hf1⟩ : ∃ f, few d x1 = f := ⟨_, rfl⟩
   obtain ⟨f2, hf2⟩ : ∃ f, few d x2 = f := ⟨_, rfl⟩
   have H1 := qh (fun W => few_num (w := W) hf1 HD.out.1 HD.out.2)
   have H2 := qh (fun W => few_num (w := W) hf2 HD.out.1 HD.out.2)
   have HF : Hid (fewS d (x1, x2) = (f1 && (f2 && decide (numQ x1 ≤ numQ x2)))) := qh (by unfold fewS; rw [hf1, hf2])
   have HF1 := qh hf1
   have HF2 := qh hf2
   clear hc hat hil hx hf1 hf2
   go_upto_region 6 with (fail)
   refine wp_region_T (fun w' => Below wr.heap.size wr w') [] (by kernel_rfl) ?_
   refine tb 0 (.slice (some ⟨b, o, none⟩) n c) [] rfl (by kernel_rfl) (fun _ _ _ h => h) (by rfl) (by intros; go_simp) bq0 ?_
   simp only [ppq]
   refine tb 1 (.int .i64 (i : Int)) [] rfl (by kernel_rfl) (fun _ _ _ h => h) (by rfl) (by intros; go_simp) bq0 ?_
   simp only [ppq]
   refine tb 2 (.pointer (some ⟨b, o + i * 2, none⟩)) [] rfl (by kernel_rfl) (fun _ _ _ h => h) (by rfl) (by intros; go_simp) bq0 ?_
   simp only [ppq]
   refine tb 3 (.pointer (some ⟨b, o + i * 2, none⟩)) [] rfl (by kernel_rfl) (fun _ _ _ h => h) (by rfl) (by intros; go_simp) bq0 ?_
   simp only [ppq]
   refine tb 4 (bs x1) [] rfl (by kernel_rfl) (fun _ _ _ h => h) (by rfl) (by intros; go_simp) bq0 ?_
   simp only [ppq]
   refine tb 5 (.int .i64 d) [] rfl (by kernel_rfl) (fun _ _ _ h => h) (by rfl) (by intros; go_simp) bq0 ?_
   simp only [ppq]
   refine rd1 6 (by kernel_rfl) rfl (fun K hK => ?_)
   go_simp
   go_wp2_with (go_at_call 32; ((with_reducible refine (H1.out _).mono ?_); rintro e1 w1 ⟨rfl, hb1⟩); obtain ⟨hc1, hf1⟩ := bcell hb1; (try simp only [dw] at hc1 hf1))
   have sS1 := qh (bst bq0 hb1)
   refine hK.out _ _ (fun _ => sS1.out) ?_
   clear hK K
   refine rd1 7 (by kernel_rfl) rfl (fun K hK => ?_)
   go_simp
   refine hK.out _ _ (fun _ => (bq (by with_reducible repeat' first | assumption | constructor | go_size))) ?_
   clear hK K
   refine rd1 8 (by kernel_rfl) rfl (fun K hK => ?_)
   go_simp
   refine hK.out _ _ (fun _ => (bq (by with_reducible repeat' first | assumption | constructor | go_size))) ?_
   clear hK K
   cases f1
   ·have hR : false = r := by rw [← HC.out, HF.out]; rfl
    subst hR
    refine ts 9 [] rfl (by kernel_rfl) (fun _ _ _ h => h) (by rfl) sS1.out ?_
    simp only [ppq]
    refine ts 10 [] rfl (by kernel_rfl) (fun _ _ _ h => h) (by rfl) sS1.out ?_
    simp only [ppq]
    refine ts 11 [] rfl (by kernel_rfl) (fun _ _ _ h => h) (by rfl) sS1.out ?_
    simp only [ppq]
    refine ts 12 [] rfl (by kernel_rfl) (fun _ _ _ h => h) (by rfl) sS1.out ?_
    simp only [ppq]
    refine ts 13 [] rfl (by kernel_rfl) (fun _ _ _ h => h) (by rfl) sS1.out ?_
    simp only [ppq]
    refine ts 14 [] rfl (by kernel_rfl) (fun _ _ _ h => h) (by rfl) sS1.out ?_
    simp only [ppq]
    refine ts 15 [] rfl (by kernel_rfl) (fun _ _ _ h => h) (by rfl) sS1.out ?_
    simp only [ppq]
    refine ts 16 [] rfl (by kernel_rfl) (fun _ _ _ h => h) (by rfl) sS1.out ?_
    simp only [ppq]
    refine rd1 17 (by kernel_rfl) rfl (fun K hK => ?_)
    go_simp
    refine hK.out _ _ (fun _ => (bq (by with_reducible repeat' first | assumption | constructor | go_size))) ?_
    clear hK K
    refine rd1 18 (by kernel_rfl) rfl (fun K hK => ?_)
    go_simp
    refine hK.out _ _ (fun _ => (bq (by with_reducible repeat' first | assumption | constructor | go_size))) ?_
    clear hK K
    refine ts 19 [] rfl (by kernel_rfl) (fun _ _ _ h => h) (by rfl) sS1.out ?_
    simp only [ppq]
    refine ts 20 [] rfl (by kernel_rfl) (fun _ _ _ h => h) (by rfl) sS1.out ?_
    simp only [ppq]
    refine ts 21 [] rfl (by kernel_rfl) (fun _ _ _ h => h) (by rfl) sS1.out ?_
    simp only [ppq]
    refine ts 22 [] rfl (by kernel_rfl) (fun _ _ _ h => h) (by rfl) sS1.out ?_
    simp only [ppq]
    refine ts 23 [] rfl (by kernel_rfl) (fun _ _ _ h => h) (by rfl) sS1.out ?_
    simp only [ppq]
    refine ts 24 [] rfl (by kernel_rfl) (fun _ _ _ h => h) (by rfl) sS1.out ?_
    simp only [ppq]
    refine ts 25 [] rfl (by kernel_rfl) (fun _ _ _ h => h) (by rfl) sS1.out ?_
    simp only [ppq]
    refine ts 26 [] rfl (by kernel_rfl) (fun _ _ _ h => h) (by rfl) sS1.out ?_
    simp only [ppq]
    refine ts 27 [] rfl (by kernel_rfl) (fun _ _ _ h => h) (by rfl) sS1.out ?_
    simp only [ppq]
    refine ts 28 [] rfl (by kernel_rfl) (fun _ _ _ h => h) (by rfl) sS1.out ?_
    simp only [ppq]
    refine ts 29 [] rfl (by kernel_rfl) (fun _ _ _ h => h) (by rfl) sS1.out ?_
    simp only [ppq]
    refine ts 30 [] rfl (by kernel_rfl) (fun _ _ _ h => h) (by rfl) sS1.out ?_
    simp only [ppq]
    refine rd1 31 (by kernel_rfl) rfl (fun K hK => ?_)
    go_simp
    refine hK.out _ _ (fun _ => (bq (by with_reducible repeat' first | assumption | constructor | go_size))) ?_
    clear hK K
    refine wpAnyT_done (by kernel_rfl) ?_ _
    go_wp2
    go_ret
    exact ⟨rfl, (bq (by with_reducible repeat' first | assumption | constructor | go_size))⟩
   ·refine tb 9 (.slice (some ⟨b, o, none⟩) n c) [] rfl (by kernel_rfl) (fun _ _ _ h => h) (by rfl) (by intros; go_simp) sS1.out ?_
    simp only [ppq]
    refine tb 10 (.int .i64 (i : Int)) [] rfl (by kernel_rfl) (fun _ _ _ h => h) (by rfl) (by intros; go_simp) sS1.out ?_
    simp only [ppq]
    refine tb 11 (.pointer (some ⟨b, o + i * 2, none⟩)) [] rfl (by kernel_rfl) (fun _ _ _ h => h) (by rfl) (by intros; go_simp) sS1.out ?_
    simp only [ppq]
    refine tb 12 (.pointer (some ⟨b, o + i * 2 + 1, none⟩)) [] rfl (by kernel_rfl) (fun _ _ _ h => h) (by rfl) (by intros; go_simp) sS1.out ?_
    simp only [ppq]
    refine tb 13 (bs x2) [] rfl (by kernel_rfl) (fun _ _ _ h => h) (by rfl) (by intros; go_simp) sS1.out ?_
    simp only [ppq]
    refine tb 14 (.int .i64 d) [] rfl (by kernel_rfl) (fun _ _ _ h => h) (by rfl) (by intros; go_simp) sS1.out ?_
    simp only [ppq]
    refine rd1 15 (by kernel_rfl) rfl (fun K hK => ?_)
    go_simp
    go_wp2_with (go_at_call 32; ((with_reducible refine (H2.out _).mono ?_); rintro e2 w2 ⟨rfl, hb2⟩); obtain ⟨hc2, hf2⟩ := bcell hb2; (try simp only [dw] at hc2 hf2))
    have sS2 := qh (bst sS1.out hb2)
    refine hK.out _ _ (fun _ => sS2.out) ?_
    clear hK K
    refine rd1 16 (by kernel_rfl) rfl (fun K hK => ?_)
    go_simp
    refine hK.out _ _ (fun _ => (bq (by with_reducible repeat' first | assumption | constructor | go_size))) ?_
    clear hK K
    refine rd1 17 (by kernel_rfl) rfl (fun K hK => ?_)
    go_simp
    refine hK.out _ _ (fun _ => (bq (by with_reducible repeat' first | assumption | constructor | go_size))) ?_
    clear hK K
    refine rd1 18 (by kernel_rfl) rfl (fun K hK => ?_)
    go_simp
    refine hK.out _ _ (fun _ => (bq (by with_reducible repeat' first | assumption | constructor | go_size))) ?_
    clear hK K
    cases f2
    ·have hR : false = r := by rw [← HC.out, HF.out]; rfl
     subst hR
     refine ts 19 [] rfl (by kernel_rfl) (fun _ _ _ h => h) (by rfl) sS2.out ?_
     simp only [ppq]
     refine ts 20 [] rfl (by kernel_rfl) (fun _ _ _ h => h) (by rfl) sS2.out ?_
     simp only [ppq]
     refine ts 21 [] rfl (by kernel_rfl) (fun _ _ _ h => h) (by rfl) sS2.out ?_
     simp only [ppq]
     refine ts 22 [] rfl (by kernel_rfl) (fun _ _ _ h => h) (by rfl) sS2.out ?_
     simp only [ppq]
     refine ts 23 [] rfl (by kernel_rfl) (fun _ _ _ h => h) (by rfl) sS2.out ?_
     simp only [ppq]
     refine ts 24 [] rfl (by kernel_rfl) (fun _ _ _ h => h) (by rfl) sS2.out ?_
     simp only [ppq]
     refine ts 25 [] rfl (by kernel_rfl) (fun _ _ _ h => h) (by rfl) sS2.out ?_
     simp only [ppq]
     refine ts 26 [] rfl (by kernel_rfl) (fun _ _ _ h => h) (by rfl) sS2.out ?_
     simp only [ppq]
     refine ts 27 [] rfl (by kernel_rfl) (fun _ _ _ h => h) (by rfl) sS2.out ?_
     simp only [ppq]
     refine ts 28 [] rfl (by kernel_rfl) (fun _ _ _ h => h) (by rfl) sS2.out ?_
     simp only [ppq]
     refine ts 29 [] rfl (by kernel_rfl) (fun _ _ _ h => h) (by rfl) sS2.out ?_
     simp only [ppq]
     refine ts 30 [] rfl (by kernel_rfl) (fun _ _ _ h => h) (by rfl) sS2.out ?_
     simp only [ppq]
     refine rd1 31 (by kernel_rfl) rfl (fun K hK => ?_)
     go_simp
     refine hK.out _ _ (fun _ => (bq (by with_reducible repeat' first | assumption | constructor | go_size))) ?_
     clear hK K
     refine wpAnyT_done (by kernel_rfl) ?_ _
     go_wp2
     go_ret
     exact ⟨rfl, (bq (by with_reducible repeat' first | assumption | constructor | go_size))⟩
    ·obtain ⟨g, H3, HG⟩ := few_cmp HD.out.2 HF1.out HF2.out
     refine tb 19 (.slice (some ⟨b, o, none⟩) n c) [] rfl (by kernel_rfl) (fun _ _ _ h => h) (by rfl) (by intros; go_simp) sS2.out ?_
     simp only [ppq]
     refine tb 20 (.int .i64 (i : Int)) [] rfl (by kernel_rfl) (fun _ _ _ h => h) (by rfl) (by intros; go_simp) sS2.out ?_
     simp only [ppq]
     refine tb 21 (.pointer (some ⟨b, o + i * 2, none⟩)) [] rfl (by kernel_rfl) (fun _ _ _ h => h) (by rfl) (by intros; go_simp) sS2.out ?_
     simp only [ppq]
     refine tb 22 (.pointer (some ⟨b, o + i * 2, none⟩)) [] rfl (by kernel_rfl) (fun _ _ _ h => h) (by rfl) (by intros; go_simp) sS2.out ?_
     simp only [ppq]
     refine tb 23 (bs x1) [] rfl (by kernel_rfl) (fun _ _ _ h => h) (by rfl) (by intros; go_simp) sS2.out ?_
     simp only [ppq]
     refine tb 24 (.slice (some ⟨b, o, none⟩) n c) [] rfl (by kernel_rfl) (fun _ _ _ h => h) (by rfl) (by intros; go_simp) sS2.out ?_
     simp only [ppq]
     refine tb 25 (.int .i64 (i : Int)) [] rfl (by kernel_rfl) (fun _ _ _ h => h) (by rfl) (by intros; go_simp) sS2.out ?_
     simp only [ppq]
     refine tb 26 (.pointer (some ⟨b, o + i * 2, none⟩)) [] rfl (by kernel_rfl) (fun _ _ _ h => h) (by rfl) (by intros; go_simp) sS2.out ?_
     simp only [ppq]
     refine tb 27 (.pointer (some ⟨b, o + i * 2 + 1, none⟩)) [] rfl (by kernel_rfl) (fun _ _ _ h => h) (by rfl) (by intros; go_simp) sS2.out ?_
     simp only [ppq]
     refine tb 28 (bs x2) [] rfl (by kernel_rfl) (fun _ _ _ h => h) (by rfl) (by intros; go_simp) sS2.out ?_
     simp only [ppq]
     refine rd1 29 (by kernel_rfl) rfl (fun K hK => ?_)
     go_simp
     go_wp2_with (go_at_call 18; ((with_reducible refine (H3.out _).mono ?_); rintro e3 w3 ⟨rfl, hb3⟩); obtain ⟨hc3, hf3⟩ := bcell hb3; (try simp only [dw] at hc3 hf3))
     have sS3 := qh (bst sS2.out hb3)
     refine hK.out _ _ (fun _ => sS3.out) ?_
     clear hK K
     refine rd1 30 (by kernel_rfl) rfl (fun K hK => ?_)
     go_simp
     refine hK.out _ _ (fun _ => (bq (by with_reducible repeat' first | assumption | constructor | go_size))) ?_
     clear hK K
     refine rd1 31 (by kernel_rfl) rfl (fun K hK => ?_)
     go_simp
     refine hK.out _ _ (fun _ => (bq (by with_reducible repeat' first | assumption | constructor | go_size))) ?_
     clear hK K
     refine wpAnyT_done (by kernel_rfl) ?_ _
     go_wp2
     ·have hR : false = r := by rw [← HC.out, HF.out, HG.out, decide_eq_true (show 0 < g by omega)]; rfl
      subst hR
      go_ret
      exact ⟨rfl, (bq (by with_reducible repeat' first | assumption | constructor | go_size))⟩
     ·have HC2 : Hid ((ls.drop (i + 1)).all (fewS d) = r) := qh (by rw [← HC.out, HF.out, HG.out, decide_eq_false (show ¬ 0 < g by omega)]; rfl)
      exact ⟨⟨i + 1, by simp, HII.out, (bq (by with_reducible repeat' first | assumption | constructor | go_size)), HC2.out⟩, by have := HII.out; simp [intOf]; omega⟩
  ·have p0 : decide (i < n) = false := by simp; omega
   rw [List.drop_eq_nil_of_le (by rw [H.out.len]; omega)] at hc
   have hR : true = r := by rw [← hc]; rfl
   subst hR
   clear hc hi HR
   go_wp2
   go_ret
   exact ⟨rfl, (bq (by with_reducible repeat' first | assumption | constructor | go_size))⟩
end
end Go.Proofs.YtoccfcpggomlaaaGreatDoor
