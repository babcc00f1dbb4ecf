/- The law MeasureParts: the walk. -/
import Derived.Test.YtoccfcpggomlaaaGreatDoorOcG
import Derived.Test.YtoccfcpggomlaaaGreatDoorQe
import Derived.Test.YtoccfcpggomlaaaGreatDoorMpG
import Derived.Test.YtoccfcpggomlaaaGreatDoorObG
set_option linter.unusedSimpArgs false
set_option linter.unusedVariables false
set_option maxRecDepth 100000
set_option maxHeartbeats 8000000
namespace Go.Proofs.YtoccfcpggomlaaaGreatDoor
open Go Go.RowKit

theorem iv_four {W : World} {a b c d : Int} {T : TypeId} (ha : R64 a) (hb : R64 b) (hc : R64 c) (hd : R64 d) : Iv (W.alloc (.cells #[.int .i64 a, .int .i64 b, .int .i64 c, .int .i64 d] T)) (some ⟨W.heap.size, 0, none⟩) 4 [a, b, c, d] :=
 blk_iv (t := T) (zs := [a, b, c, d]) (by intro z hz; simp only [List.mem_cons, List.not_mem_nil, or_false] at hz; rcases hz with rfl | rfl | rfl | rfl <;> assumption) (Blk.new W T _)
theorem cw_err {ws : List Int} : (cw ws).2 = 0 ∨ (cw ws).2 = 3 ∨ (cw ws).2 = 6 := by
 have : ∀ (r : List Int) (s : Int), (cwGo s r).2 = 0 ∨ (cwGo s r).2 = 3 ∨ (cwGo s r).2 = 6 := fun r => by
  induction r with
  | nil => intro s; unfold cwGo; split <;> simp
  | cons x r ih => intro s; unfold cwGo; split <;> simp [ih]
 exact this ws 0
/-- The errors, in their order. -/
def bads (b : Bool) (n : Nat) (ws : List Int) : List Int := [wh b 3, wh ((n : Int) == 0) 2, wh (decide (256 < (n : Int))) 5, (cw ws).2]
theorem wh_cases (h : Bool) (e : Int) : wh h e = e ∨ wh h e = 0 := by cases h <;> simp [wh]
theorem bads_rng {b : Bool} {n : Nat} {ws : List Int} : R64 (firstOf (bads b n ws)) := by
 have key : ∀ x y z u : Int, (x = 3 ∨ x = 0) → (y = 2 ∨ y = 0) → (z = 5 ∨ z = 0) → (u = 0 ∨ u = 3 ∨ u = 6) → R64 (firstOf [x, y, z, u]) := by
  rintro x y z u (rfl | rfl) (rfl | rfl) (rfl | rfl) (rfl | rfl | rfl) <;> exact ⟨by decide, by decide⟩
 exact key _ _ _ _ (wh_cases _ _) (wh_cases _ _) (wh_cases _ _) cw_err
section
variable {w : World} {A : Option Addr} {n c : Nat} {ws : List Int} {t : Int}
/-- The errors of apportioning are those of the law. -/
theorem app_bad {k : Int} (h : Iv w A n ws) (hn : n ≤ 10 ∨ 256 < n) (hk : firstOf (bads (decide (t < 0) || decide (999999999 < t)) n ws) = k) (h0 : k ≠ 0) :
  Calls Tryz.prog 6 #[.int .i64 t, .slice A n c] w fun e w' => e = .returned (.tuple #[.slice none 0 0, .int .i64 k]) ∧ Below w.heap.size w w' := by
 unfold bads at hk
 by_cases h1 : t < 0
 ·obtain rfl : k = 3 := by rw [← hk]; simp [firstOf, wh, h1]
  exact apportion_low h1
 ·by_cases h2 : 999999999 < t
  ·obtain rfl : k = 3 := by rw [← hk]; simp [firstOf, wh, h1, h2]
   exact apportion_high (by omega) h2
  ·by_cases h3 : n = 0
   ·subst h3
    obtain rfl : k = 2 := by rw [← hk]; simp [firstOf, wh, h1, h2]
    exact apportion_none (by omega) (by omega)
   ·by_cases h4 : (256 : Int) < (n : Int)
    ·obtain rfl : k = 5 := by rw [← hk]; simp [firstOf, wh, h1, h2, h3, h4]
     exact apportion_many (by omega) (by omega) (by omega)
    ·have h5 : (cw ws).2 = k := by rw [← hk]; simp [firstOf, wh, h1, h2, h3, h4]
     refine apportion_err h (by omega) (by omega) (by omega) (by omega) ?_ h0
     have := cwGo_zero (ws := ws) (s := 0) (z := (cw ws).1) (k := k) (by rw [← h5]; rfl) h0
     rw [← h5, ← this]
/-- The parts. -/
def prts (t s : Int) (ws : List Int) (m : Nat) : List Int := (List.range (m + 1)).map (App.out t s (fun j => ws.getD j 0) (apL t s ws m) (App.left t s (fun j => ws.getD j 0) (m + 1)).toNat)
theorem prts_rng {t s : Int} {ws : List Int} {m : Nat} (hw : ∀ j, 0 ≤ ws.getD j 0 ∧ ws.getD j 0 ≤ 999999999) (hs : App.sumTo (fun j => ws.getD j 0) (m + 1) = s) (h1 : 0 < s) (ht : 0 ≤ t) (ht1 : t ≤ 999999999) : ∀ z ∈ prts t s ws m, R64 z := by
 have hU := addsUp (t := t) (fun j => (hw j).1) hs h1 ht
 intro z hz
 obtain ⟨j, hj, rfl⟩ := List.mem_iff_getElem.1 hz
 have hl := hU.len
 have hj' : j < m + 1 := by rw [← hl]; exact hj
 have a := hU.low j hj'; have b := hU.high j hj'
 change 0 ≤ (prts t s ws m).getD j 0 at a
 change (prts t s ws m).getD j 0 ≤ t at b
 rw [List.getD_eq_getElem?_getD, List.getElem?_eq_getElem hj, Option.getD_some] at a b
 exact ⟨by omega, by omega⟩
theorem app_parts {s : Int} {m : Nat} (hn : n = m + 1) (hm : m < 19) (h : Iv w A n ws) (hcw : cw ws = (s, 0)) (ht0 : 0 ≤ t) (ht1 : t ≤ 999999999) :
  Calls Tryz.prog 6 #[.int .i64 t, .slice A n c] w fun e w' => ∃ b, e = .returned (.tuple #[.slice (some ⟨b, 0, none⟩) n n, .int .i64 0]) ∧ Iv w' (some ⟨b, 0, none⟩) n (prts t s ws m) ∧ Below w.heap.size w w' := by
 obtain ⟨a1, a2, a3⟩ := cw_good hcw
 rw [h.len] at a2
 subst hn
 refine (apportion_ok (m := m) (s := s) rfl hm h a1 hcw a2 a3 ht0 ht1).mono ?_
 rintro e w' ⟨b, rfl, h1, _, h2⟩
 refine ⟨_, rfl, ?_, h2⟩
 have := blk_iv (prts_rng a1 a2 a3 ht0 ht1) h1
 rwa [show (prts t s ws m).length = m + 1 by simp [prts]] at this
theorem ref_parts {s : Int} {m : Nat} (hn : n = m + 1) (hm : m < 19) (h : Iv w A n ws) (hcw : cw ws = (s, 0)) (ht0 : 0 ≤ t) (ht1 : t ≤ 999999999) :
  Calls Tryz.prog 11 #[.int .i64 t, .slice A n c] w fun e w' => ∃ b, e = .returned (.slice (some ⟨b, 0, none⟩) n n) ∧ Iv w' (some ⟨b, 0, none⟩) n (prts t s ws m) ∧ Below w.heap.size w w' := by
 obtain ⟨a1, a2, a3⟩ := cw_good hcw
 rw [h.len] at a2
 subst hn
 refine (refParts_ok (m := m) (s := s) rfl hm h a1 a2 a3 ht0 ht1).mono ?_
 rintro e w' ⟨rfl, h1, h2⟩
 refine ⟨_, rfl, ?_, h2⟩
 have := blk_iv (prts_rng a1 a2 a3 ht0 ht1) h1
 rwa [show (prts t s ws m).length = m + 1 by simp [prts]] at this
theorem parts_skip (hE : Env w) (hn : 10 < n) (hn2 : n ≤ 256) : Calls Tryz.prog 3 #[.int .i64 t, .slice A n c] w fun e w' => e = .returned (.bool true) ∧ Below w.heap.size w w' := by
 have HE := Lib.hid hE
 have q1 : decide ((10 : Int) < (n : Int)) = true := by rw [decide_eq_true_iff]; omega
 have q2 : decide ((n : Int) ≤ 256) = true := by rw [decide_eq_true_iff]; omega
 clear hE hn hn2
 go_enter Tryz.func3, Tryz.ntmps3
 go_wp2_with (first | (go_at_call 5; ((with_reducible refine (awake_at HE.out (by with_reducible repeat first | exact bR | assumption | apply bA | apply bD | apply bN | refine bC ?_ (by go_size) | refine bS ?_ ‹_›)).mono ?_); rintro e1 w1 ⟨rfl, hb1⟩); obtain ⟨hc1, hf1⟩ := bcell hb1; (try simp only [dw] at hc1 hf1)))
 go_wp2_with (first | (go_at_call 5; ((with_reducible refine (awake_at HE.out (by with_reducible repeat first | exact bR | assumption | apply bA | apply bD | apply bN | refine bC ?_ (by go_size) | refine bS ?_ ‹_›)).mono ?_); rintro e2 w2 ⟨rfl, hb2⟩); obtain ⟨hc2, hf2⟩ := bcell hb2; (try simp only [dw] at hc2 hf2)))
 go_ret
 exact ⟨rfl, (by with_reducible repeat first | exact bR | assumption | apply bA | apply bD | apply bN | refine bC ?_ (by go_size) | refine bS ?_ ‹_›)⟩
theorem parts_much (hE : Env w) (hn : 270 < n) : Calls Tryz.prog 3 #[.int .i64 t, .slice A n c] w fun e w' => e = .returned (.bool true) ∧ Below w.heap.size w w' := by
 have HE := Lib.hid hE
 have q1 : decide ((10 : Int) < (n : Int)) = true := by rw [decide_eq_true_iff]; omega
 have q2 : decide ((n : Int) ≤ 256) = false := by rw [decide_eq_false_iff_not]; omega
 have q3 : decide ((270 : Int) < (n : Int)) = true := by rw [decide_eq_true_iff]; omega
 clear hE hn
 go_enter Tryz.func3, Tryz.ntmps3
 go_wp2_with (first | (go_at_call 5; ((with_reducible refine (awake_at HE.out (by with_reducible repeat first | exact bR | assumption | apply bA | apply bD | apply bN | refine bC ?_ (by go_size) | refine bS ?_ ‹_›)).mono ?_); rintro e1 w1 ⟨rfl, hb1⟩); obtain ⟨hc1, hf1⟩ := bcell hb1; (try simp only [dw] at hc1 hf1)))
 go_wp2_with (first | (go_at_call 5; ((with_reducible refine (awake_at HE.out (by with_reducible repeat first | exact bR | assumption | apply bA | apply bD | apply bN | refine bC ?_ (by go_size) | refine bS ?_ ‹_›)).mono ?_); rintro e2 w2 ⟨rfl, hb2⟩); obtain ⟨hc2, hf2⟩ := bcell hb2; (try simp only [dw] at hc2 hf2)))
 go_ret
 exact ⟨rfl, (by with_reducible repeat first | exact bR | assumption | apply bA | apply bD | apply bN | refine bC ?_ (by go_size) | refine bS ?_ ‹_›)⟩
set_option maxHeartbeats 16000000 in
theorem parts_bad {k : Int} {b1 b2 b4 b5 : Bool} (hE : Env w) (h : Iv w A n ws) (hn : n ≤ 10 ∨ 256 < n) (hn2 : n ≤ 270) (q1 : decide ((10 : Int) < (n : Int)) = b1) (q2 : decide ((n : Int) ≤ 256) = b2) (q4 : decide (t < 0) = b4) (q5 : decide (999999999 < t) = b5) (hk : firstOf (bads (b4 || b5) n ws) = k) (h0 : k ≠ 0) :
  Calls Tryz.prog 3 #[.int .i64 t, .slice A n c] w fun e w' => e = .returned (.bool true) ∧ Below w.heap.size w w' := by
 have HE := Lib.hid hE
 have H := Lib.hid h
 have HN := Lib.hid hn
 have HN2 := Lib.hid hn2
 have hb : firstOf (bads (decide (t < 0) || decide (999999999 < t)) n ws) = k := by rw [q4, q5]; exact hk
 have HB := Lib.hid hb
 have HK0 := Lib.hid h0
 have HKR : Hid (R64 k) := Lib.hid (by rw [← hk]; exact bads_rng)
 have HK := Lib.hid hk
 have HC : Hid (R64 (cw ws).2) := Lib.hid (by have := cw_err (ws := ws); exact ⟨by omega, by omega⟩)
 have q3 : decide ((270 : Int) < (n : Int)) = false := by rw [decide_eq_false_iff_not]; omega
 have q6 : (k != 0) = true := by rw [bne_iff_ne]; exact h0
 have q7 : ¬ (b1 = true ∧ b2 = true) := by rw [← q1, ← q2, decide_eq_true_iff, decide_eq_true_iff]; omega
 clear hE h hn hn2 hb h0 hk
 cases b1 <;> cases b2 <;> (first | exact absurd ⟨rfl, rfl⟩ q7 | skip) <;> cases b4 <;> cases b5 <;> (
  go_enter Tryz.func3, Tryz.ntmps3
  go_wp2_with (first | (go_at_call 5; ((with_reducible refine (awake_at HE.out (by with_reducible repeat first | exact bR | assumption | apply bA | apply bD | apply bN | refine bC ?_ (by go_size) | refine bS ?_ ‹_›)).mono ?_); rintro e1 w1 ⟨rfl, hb1⟩); obtain ⟨hc1, hf1⟩ := bcell hb1; (try simp only [dw] at hc1 hf1)) | (go_at_call 6; ((with_reducible refine (app_bad (H.out.below (by with_reducible repeat first | exact bR | assumption | apply bA | apply bD | apply bN | refine bC ?_ (by go_size) | refine bS ?_ ‹_›)) HN.out HB.out HK0.out).mono ?_); rintro e2 w2 ⟨rfl, hb2⟩); obtain ⟨hc2, hf2⟩ := bcell hb2; (try simp only [dw] at hc2 hf2)) | (go_at_call 7; ((with_reducible refine (when_num _ _).mono ?_); rintro e3 w3 ⟨rfl, hb3⟩); obtain ⟨hc3, hf3⟩ := bcell hb3; (try simp only [dw] at hc3 hf3)) | (go_at_call 9; ((with_reducible refine (refWeights_num (H.out.below (by with_reducible repeat first | exact bR | assumption | apply bA | apply bD | apply bN | refine bC ?_ (by go_size) | refine bS ?_ ‹_›)) (by have := HN2.out; omega)).mono ?_); rintro e4 w4 ⟨rfl, hb4⟩); obtain ⟨hc4, hf4⟩ := bcell hb4; (try simp only [dw] at hc4 hf4)) | (go_at_call 8; refine (first_k (k := k) (iv_four (wh_rng ⟨by decide, by decide⟩) (wh_rng ⟨by decide, by decide⟩) (wh_rng ⟨by decide, by decide⟩) HC.out) (by omega) (by exact HK.out)).mono ?_; rintro e5 w5 ⟨rfl, hb5⟩; obtain ⟨hc5, hf5⟩ := bcell hb5; (try simp only [dw] at hc5 hf5)))
  go_ret
  exact ⟨rfl, (by with_reducible repeat first | exact bR | assumption | apply bA | apply bD | apply bN | refine bC ?_ (by go_size) | refine bS ?_ ‹_›)⟩)
set_option maxHeartbeats 16000000 in
theorem parts_good {s : Int} {m : Nat} (hE : Env w) (h : Iv w A n ws) (hn : n = m + 1) (hm : m < 10) (hcw : cw ws = (s, 0)) (ht0 : 0 ≤ t) (ht1 : t ≤ 999999999) :
  Calls Tryz.prog 3 #[.int .i64 t, .slice A n c] w fun e w' => e = .returned (.bool true) ∧ Below w.heap.size w w' := by
 have HE := Lib.hid hE
 have H := Lib.hid h
 have HN := Lib.hid (And.intro hn hm)
 have HCW := Lib.hid hcw
 have HT := Lib.hid (And.intro ht0 ht1)
 have q1 : decide ((10 : Int) < (n : Int)) = false := by rw [decide_eq_false_iff_not]; omega
 have q3 : decide ((270 : Int) < (n : Int)) = false := by rw [decide_eq_false_iff_not]; omega
 have q4 : decide (t < 0) = false := by rw [decide_eq_false_iff_not]; omega
 have q5 : decide (999999999 < t) = false := by rw [decide_eq_false_iff_not]; omega
 have HK : Hid (firstOf (bads (false || false) n ws) = 0) := Lib.hid (by
  have h1 : ((n : Int) == 0) = false := by rw [beq_eq_false_iff_ne]; omega
  have h2 : decide ((256 : Int) < (n : Int)) = false := by rw [decide_eq_false_iff_not]; omega
  unfold bads
  rw [h1, h2, hcw]
  rfl)
 have HC : Hid (R64 (cw ws).2) := Lib.hid (by have := cw_err (ws := ws); exact ⟨by omega, by omega⟩)
 clear hE h hn hm hcw ht0 ht1
 go_enter Tryz.func3, Tryz.ntmps3
 go_wp2_with (first | (go_at_call 5; ((with_reducible refine (awake_at HE.out (by with_reducible repeat first | exact bR | assumption | apply bA | apply bD | apply bN | refine bC ?_ (by go_size) | refine bS ?_ ‹_›)).mono ?_); rintro e1 w1 ⟨rfl, hb1⟩); obtain ⟨hc1, hf1⟩ := bcell hb1; (try simp only [dw] at hc1 hf1)) | (go_at_call 6; (with_reducible refine (app_parts HN.out.1 (by have := HN.out.2; omega) (H.out.below (by with_reducible repeat first | exact bR | assumption | apply bA | apply bD | apply bN | refine bC ?_ (by go_size) | refine bS ?_ ‹_›)) HCW.out HT.out.1 HT.out.2).mono ?_); rintro e2 w2 ⟨b2, rfl, hO2, hb2⟩; obtain ⟨hc2, hf2⟩ := bcell hb2; (try simp only [dw] at hc2 hf2); have HO := Lib.hid hO2; clear hO2) | (go_at_call 7; ((with_reducible refine (when_num _ _).mono ?_); rintro e3 w3 ⟨rfl, hb3⟩); obtain ⟨hc3, hf3⟩ := bcell hb3; (try simp only [dw] at hc3 hf3)) | (go_at_call 9; ((with_reducible refine (refWeights_num (H.out.below (by with_reducible repeat first | exact bR | assumption | apply bA | apply bD | apply bN | refine bC ?_ (by go_size) | refine bS ?_ ‹_›)) (by have := HN.out; omega)).mono ?_); rintro e4 w4 ⟨rfl, hb4⟩); obtain ⟨hc4, hf4⟩ := bcell hb4; (try simp only [dw] at hc4 hf4)) | (go_at_call 8; refine (first_k (k := 0) (iv_four (wh_rng ⟨by decide, by decide⟩) (wh_rng ⟨by decide, by decide⟩) (wh_rng ⟨by decide, by decide⟩) HC.out) (by omega) (by exact HK.out)).mono ?_; rintro e5 w5 ⟨rfl, hb5⟩; obtain ⟨hc5, hf5⟩ := bcell hb5; (try simp only [dw] at hc5 hf5)) | (go_at_call 11; (with_reducible refine (ref_parts HN.out.1 (by have := HN.out.2; omega) (H.out.below (by with_reducible repeat first | exact bR | assumption | apply bA | apply bD | apply bN | refine bC ?_ (by go_size) | refine bS ?_ ‹_›)) HCW.out HT.out.1 HT.out.2).mono ?_); rintro e6 w6 ⟨b6, rfl, hO6, hb6⟩; obtain ⟨hc6, hf6⟩ := bcell hb6; (try simp only [dw] at hc6 hf6); have HO' := Lib.hid hO6; clear hO6) | (go_at_call 10; ((with_reducible refine (sameInts_fact (r := true) (HO.out.below (by with_reducible repeat first | exact bR | assumption | apply bA | apply bD | apply bN | refine bC ?_ (by go_size) | refine bS ?_ ‹_›)) (HO'.out.below (by with_reducible repeat first | exact bR | assumption | apply bA | apply bD | apply bN | refine bC ?_ (by go_size) | refine bS ?_ ‹_›)) (by have := HN.out; omega) (by simp)).mono ?_); rintro e7 w7 ⟨rfl, hb7⟩); obtain ⟨hc7, hf7⟩ := bcell hb7; (try simp only [dw] at hc7 hf7)))
 go_ret
 exact ⟨rfl, (by with_reducible repeat first | exact bR | assumption | apply bA | apply bD | apply bN | refine bC ?_ (by go_size) | refine bS ?_ ‹_›)⟩
/-- The law, for every total and all weights. -/
theorem parts_walk (hE : Env w) (h : Iv w A n ws) : Calls Tryz.prog 3 #[.int .i64 t, .slice A n c] w fun e w' => e = .returned (.bool true) ∧ Below w.heap.size w w' := by
 by_cases h1 : 10 < n ∧ n ≤ 256
 ·exact parts_skip hE h1.1 h1.2
 ·by_cases h2 : 270 < n
  ·exact parts_much hE h2
  ·by_cases h3 : firstOf (bads (decide (t < 0) || decide (999999999 < t)) n ws) = 0
   ·have h4 : n ≠ 0 ∧ ¬ (256 : Int) < (n : Int) ∧ 0 ≤ t ∧ t ≤ 999999999 ∧ (cw ws).2 = 0 := by
     unfold bads at h3
     have w1 : ∀ {b : Bool} {e x : Int} {r : List Int}, e ≠ 0 → firstOf (wh b e :: r) = 0 → b = false ∧ firstOf r = 0 := fun {b e x r} he h => by
      cases b
      ·exact ⟨rfl, by simpa [firstOf, wh] using h⟩
      ·simp [firstOf, wh, he] at h
     obtain ⟨a1, a2⟩ := w1 (x := 0) (by decide) h3
     obtain ⟨b1, b2⟩ := w1 (x := 0) (by decide) a2
     obtain ⟨c1, c2⟩ := w1 (x := 0) (by decide) b2
     rw [Bool.or_eq_false_iff, decide_eq_false_iff_not, decide_eq_false_iff_not] at a1
     rw [beq_eq_false_iff_ne] at b1
     rw [decide_eq_false_iff_not] at c1
     refine ⟨by omega, c1, by omega, by omega, ?_⟩
     by_cases h : (cw ws).2 = 0
     ·exact h
     ·simp [firstOf, h] at c2
    exact parts_good (m := n - 1) (s := (cw ws).1) hE h (by omega) (by omega) (by rw [← h4.2.2.2.2]) h4.2.2.1 h4.2.2.2.1
   ·exact parts_bad hE h (by omega) (by omega) rfl rfl rfl rfl rfl h3
end
end Go.Proofs.YtoccfcpggomlaaaGreatDoor
