/- Contracts of the sum and the difference of two numbers. -/
import Derived.Test.YtoccfcpggomlaaaGreatDoorDpG
set_option linter.unusedSimpArgs false
set_option linter.unusedVariables false
set_option maxRecDepth 100000
set_option maxHeartbeats 8000000
namespace Go.Proofs.YtoccfcpggomlaaaGreatDoor
open Go Go.RowKit

theorem sg_of {z : Int} {g : Bool} {x : Nat} (hg : decide (z < 0) = g) (hx : z.natAbs = x) : z = sg g x := by
 subst hg hx
 exact (sg_natAbs z).symm
theorem parts_sg {s z : Int} {A : Option Addr} {n c : Nat} {w : World} {g : Bool} {x : Nat} (h : Rep w s A n c z) (hg : decide (z < 0) = g) (hx : z.natAbs = x) :
  Calls Tryz.prog 115 #[.agg #[.int .i64 s, .slice A n c]] w fun e w' => ∃ A n c, e = .returned (.tuple #[.bool g, .slice A n c]) ∧ NumW w' A n c x ∧ Below w.heap.size w w' := by
 subst hg hx
 exact parts_num h
theorem cmp_fact {x y : Nat} {z : Int} (h : sgn ((x : Int) - (y : Int)) = z) {A A' : Option Addr} {n c n' c' : Nat} {w : World} (h1 : NumW w A n c x) (h2 : NumW w A' n' c' y) :
  Calls Tryz.prog 148 #[.slice A n c, .slice A' n' c'] w fun e w' => e = .returned (.int .i64 z) ∧ Below w.heap.size w w' := by
 subst h
 exact compareWords_num h1 h2



section
variable {s a t b : Int} {A B : Option Addr} {n c m d : Nat} {w : World}
theorem add_left_same {p : Addr} {g g' : Bool} (h : Rep w s (some p) n c a) (h' : Rep w t (B) m d b) (hl : Lim a) (hl' : Lim b) (hg : decide (a < 0) = g) (hg' : decide (b < 0) = g') (e : g = g') :
  Calls Tryz.prog 103 #[iv s (some p) n c, iv t (B) m d] w (IntPost (a + b) w) := by
 have qe := eql_nil
 have qb : (g == g') = true := by rw [e]; simp
 have HR1 := qh (show ∀ W, Below w.heap.size w W → Rep W (s) (some p) (n) (c) (a) from fun W hb => h.below hb)
 have HR2 := qh (show ∀ W, Below w.heap.size w W → Rep W (t) (B) (m) (d) (b) from fun W hb => h'.below hb)
 have HL1 := qh hl.few
 have HL2 := qh hl'.few
 obtain ⟨x, hx⟩ : ∃ x, (a).natAbs = x := ⟨_, rfl⟩
 obtain ⟨y, hy⟩ : ∃ y, (b).natAbs = y := ⟨_, rfl⟩
 rw [hx] at HL1
 rw [hy] at HL2
 have HX := qh hx
 have HY := qh hy
 clear h h' hl hl' hx hy
 have HG := qh hg
 have HG' := qh hg'
 have HE := qh e
 clear hg hg' e
 go_enter Tryz.func103, Tryz.ntmps103
 go_wp2_with (first
  | (go_at_call 115; ((with_reducible refine (parts_sg (HR1.out _ (bq (by with_reducible repeat' first | assumption | constructor | go_size))) HG.out HX.out).mono ?_); rintro e1 w1 ⟨A1, n1, c1, rfl, hr1, hb1⟩); obtain ⟨hc1, hf1⟩ := bcell hb1; (try simp only [dw] at hc1 hf1); have hz1_0 : w.heap.size < w1.heap.size := szl hb1 (by go_size); have hz1_1 : w.heap.size + 1 < w1.heap.size := szl hb1 (by go_size); have hz1_2 : w.heap.size + 1 + 1 < w1.heap.size := szl hb1 (by go_size))
  | (go_at_call 115; ((with_reducible refine (parts_sg (HR2.out _ (bq (by with_reducible repeat' first | assumption | constructor | go_size))) HG'.out HY.out).mono ?_); rintro e2 w2 ⟨A2, n2, c2, rfl, hr2, hb2⟩); obtain ⟨hc2, hf2⟩ := bcell hb2; (try simp only [dw] at hc2 hf2); have hz2_0 : w.heap.size < w2.heap.size := szl hb2 (by go_size); have hz2_1 : w.heap.size + 1 < w2.heap.size := szl hb2 (by go_size); have hz2_2 : w.heap.size + 1 + 1 < w2.heap.size := szl hb2 (by go_size))
  | (go_at_call 147; ((with_reducible refine (addWords_num (hr1.below hb2) hr2 HL1.out HL2.out).mono ?_); rintro e3 w3 ⟨A3, n3, c3, rfl, hr3, hb3⟩); obtain ⟨hc3, hf3⟩ := bcell hb3; (try simp only [dw] at hc3 hf3); have hz3_0 : w.heap.size < w3.heap.size := szl hb3 (by go_size); have hz3_1 : w.heap.size + 1 < w3.heap.size := szl hb3 (by go_size); have hz3_2 : w.heap.size + 1 + 1 < w3.heap.size := szl hb3 (by go_size))
  | (go_at_call 116; ((with_reducible refine (made_num hr3).mono ?_); rintro e4 w4 ⟨s4, A4, n4, c4, rfl, hr4, hb4⟩); obtain ⟨hc4, hf4⟩ := bcell hb4; (try simp only [dw] at hc4 hf4); have hz4_0 : w.heap.size < w4.heap.size := szl hb4 (by go_size); have hz4_1 : w.heap.size + 1 < w4.heap.size := szl hb4 (by go_size); have hz4_2 : w.heap.size + 1 + 1 < w4.heap.size := szl hb4 (by go_size)))
 exact bodyPost_ret (v := .agg #[.int .i64 (s4), .slice (A4) (n4) (c4)]) (by simp [results, Tryz.results103, go_sem, hc4, hz3_2, hc3, hz2_2, hc2, hz1_2, hc1]) rfl (int_ret rfl ((hr4.put (x := 0) (B := none) (m := 0) (d := 0) rfl (by simp [go_sem, hc4, hz3_2, hc3, hz2_2, hc2, hz1_2, hc1]) (by simp [go_sem, hc4, hz3_2, hc3, hz2_2, hc2, hz1_2, hc1])).to (by have h1 := sg_of HG.out HX.out; have h2 := sg_of HG'.out HY.out; have h3 := HE.out; ((subst h3; rw [h1, h2]; cases g <;> simp [sg] <;> omega)))) (bq (by with_reducible repeat' first | assumption | constructor | go_size)))
theorem add_left_ge {p : Addr} {g g' : Bool} (h : Rep w s (some p) n c a) (h' : Rep w t (B) m d b) (hl : Lim a) (hl' : Lim b) (hg : decide (a < 0) = g) (hg' : decide (b < 0) = g') (e : g ≠ g') (hc : b.natAbs ≤ a.natAbs) :
  Calls Tryz.prog 103 #[iv s (some p) n c, iv t (B) m d] w (IntPost (a + b) w) := by
 have qe := eql_nil
 have qb : (g == g') = false := by simp; exact e
 have hz : sgn ((a.natAbs : Int) - (b.natAbs : Int)) = if a.natAbs = b.natAbs then 0 else 1 := by unfold sgn; split <;> split <;> omega
 obtain ⟨z, hzz, hz0⟩ : ∃ z, sgn ((a.natAbs : Int) - (b.natAbs : Int)) = z ∧ 0 ≤ z := ⟨_, hz, by split <;> omega⟩
 clear hz
 have HR1 := qh (show ∀ W, Below w.heap.size w W → Rep W (s) (some p) (n) (c) (a) from fun W hb => h.below hb)
 have HR2 := qh (show ∀ W, Below w.heap.size w W → Rep W (t) (B) (m) (d) (b) from fun W hb => h'.below hb)
 have HL1 := qh hl.few
 have HL2 := qh hl'.few
 obtain ⟨x, hx⟩ : ∃ x, (a).natAbs = x := ⟨_, rfl⟩
 obtain ⟨y, hy⟩ : ∃ y, (b).natAbs = y := ⟨_, rfl⟩
 rw [hx] at HL1
 rw [hy] at HL2
 have HX := qh hx
 have HY := qh hy
 clear h h' hl hl' hx hy
 have HG := qh hg
 have HG' := qh hg'
 have HE := qh e
 rw [HX.out, HY.out] at hc hzz
 have HC := qh hc
 have HZ := qh hzz
 clear hg hg' e hc hzz
 go_enter Tryz.func103, Tryz.ntmps103
 go_wp2_with (first
  | (go_at_call 115; ((with_reducible refine (parts_sg (HR1.out _ (bq (by with_reducible repeat' first | assumption | constructor | go_size))) HG.out HX.out).mono ?_); rintro e1 w1 ⟨A1, n1, c1, rfl, hr1, hb1⟩); obtain ⟨hc1, hf1⟩ := bcell hb1; (try simp only [dw] at hc1 hf1); have hz1_0 : w.heap.size < w1.heap.size := szl hb1 (by go_size); have hz1_1 : w.heap.size + 1 < w1.heap.size := szl hb1 (by go_size); have hz1_2 : w.heap.size + 1 + 1 < w1.heap.size := szl hb1 (by go_size))
  | (go_at_call 115; ((with_reducible refine (parts_sg (HR2.out _ (bq (by with_reducible repeat' first | assumption | constructor | go_size))) HG'.out HY.out).mono ?_); rintro e2 w2 ⟨A2, n2, c2, rfl, hr2, hb2⟩); obtain ⟨hc2, hf2⟩ := bcell hb2; (try simp only [dw] at hc2 hf2); have hz2_0 : w.heap.size < w2.heap.size := szl hb2 (by go_size); have hz2_1 : w.heap.size + 1 < w2.heap.size := szl hb2 (by go_size); have hz2_2 : w.heap.size + 1 + 1 < w2.heap.size := szl hb2 (by go_size))
  | (go_at_call 148; ((with_reducible refine (cmp_fact HZ.out (hr1.below hb2) hr2).mono ?_); rintro e5 w5 ⟨rfl, hb5⟩); obtain ⟨hc5, hf5⟩ := bcell hb5; (try simp only [dw] at hc5 hf5); have hz5_0 : w.heap.size < w5.heap.size := szl hb5 (by go_size); have hz5_1 : w.heap.size + 1 < w5.heap.size := szl hb5 (by go_size); have hz5_2 : w.heap.size + 1 + 1 < w5.heap.size := szl hb5 (by go_size))
  | (go_at_call 149; ((with_reducible refine (subWords_num (((hr1.below hb2).below hb5)) (hr2.below hb5) HL1.out HC.out).mono ?_); rintro e3 w3 ⟨A3, n3, c3, rfl, hr3, hb3⟩); obtain ⟨hc3, hf3⟩ := bcell hb3; (try simp only [dw] at hc3 hf3); have hz3_0 : w.heap.size < w3.heap.size := szl hb3 (by go_size); have hz3_1 : w.heap.size + 1 < w3.heap.size := szl hb3 (by go_size); have hz3_2 : w.heap.size + 1 + 1 < w3.heap.size := szl hb3 (by go_size))
  | (go_at_call 116; ((with_reducible refine (made_num hr3).mono ?_); rintro e4 w4 ⟨s4, A4, n4, c4, rfl, hr4, hb4⟩); obtain ⟨hc4, hf4⟩ := bcell hb4; (try simp only [dw] at hc4 hf4); have hz4_0 : w.heap.size < w4.heap.size := szl hb4 (by go_size); have hz4_1 : w.heap.size + 1 < w4.heap.size := szl hb4 (by go_size); have hz4_2 : w.heap.size + 1 + 1 < w4.heap.size := szl hb4 (by go_size)))
 exact bodyPost_ret (v := .agg #[.int .i64 (s4), .slice (A4) (n4) (c4)]) (by simp [results, Tryz.results103, go_sem, hc4, hz3_2, hc3, hz5_2, hc5, hz2_2, hc2, hz1_2, hc1]) rfl (int_ret rfl ((hr4.put (x := 0) (B := none) (m := 0) (d := 0) rfl (by simp [go_sem, hc4, hz3_2, hc3, hz5_2, hc5, hz2_2, hc2, hz1_2, hc1]) (by simp [go_sem, hc4, hz3_2, hc3, hz5_2, hc5, hz2_2, hc2, hz1_2, hc1])).to (by have h1 := sg_of HG.out HX.out; have h2 := sg_of HG'.out HY.out; have h3 := HE.out; have h4 := HC.out; ((rw [h1, h2]; cases g <;> cases g' <;> simp [sg] at h3 ⊢ <;> omega)))) (bq (by with_reducible repeat' first | assumption | constructor | go_size)))
theorem add_left_lt {p : Addr} {g g' : Bool} (h : Rep w s (some p) n c a) (h' : Rep w t (B) m d b) (hl : Lim a) (hl' : Lim b) (hg : decide (a < 0) = g) (hg' : decide (b < 0) = g') (e : g ≠ g') (hc : a.natAbs < b.natAbs) :
  Calls Tryz.prog 103 #[iv s (some p) n c, iv t (B) m d] w (IntPost (a + b) w) := by
 have qe := eql_nil
 have qb : (g == g') = false := by simp; exact e
 have hzz : sgn ((a.natAbs : Int) - (b.natAbs : Int)) = -1 := by unfold sgn; split <;> omega
 have HR1 := qh (show ∀ W, Below w.heap.size w W → Rep W (s) (some p) (n) (c) (a) from fun W hb => h.below hb)
 have HR2 := qh (show ∀ W, Below w.heap.size w W → Rep W (t) (B) (m) (d) (b) from fun W hb => h'.below hb)
 have HL1 := qh hl.few
 have HL2 := qh hl'.few
 obtain ⟨x, hx⟩ : ∃ x, (a).natAbs = x := ⟨_, rfl⟩
 obtain ⟨y, hy⟩ : ∃ y, (b).natAbs = y := ⟨_, rfl⟩
 rw [hx] at HL1
 rw [hy] at HL2
 have HX := qh hx
 have HY := qh hy
 clear h h' hl hl' hx hy
 have HG := qh hg
 have HG' := qh hg'
 have HE := qh e
 rw [HX.out, HY.out] at hc hzz
 have HC := qh hc
 have HZ := qh hzz
 clear hg hg' e hc hzz
 go_enter Tryz.func103, Tryz.ntmps103
 go_wp2_with (first
  | (go_at_call 115; ((with_reducible refine (parts_sg (HR1.out _ (bq (by with_reducible repeat' first | assumption | constructor | go_size))) HG.out HX.out).mono ?_); rintro e1 w1 ⟨A1, n1, c1, rfl, hr1, hb1⟩); obtain ⟨hc1, hf1⟩ := bcell hb1; (try simp only [dw] at hc1 hf1); have hz1_0 : w.heap.size < w1.heap.size := szl hb1 (by go_size); have hz1_1 : w.heap.size + 1 < w1.heap.size := szl hb1 (by go_size); have hz1_2 : w.heap.size + 1 + 1 < w1.heap.size := szl hb1 (by go_size))
  | (go_at_call 115; ((with_reducible refine (parts_sg (HR2.out _ (bq (by with_reducible repeat' first | assumption | constructor | go_size))) HG'.out HY.out).mono ?_); rintro e2 w2 ⟨A2, n2, c2, rfl, hr2, hb2⟩); obtain ⟨hc2, hf2⟩ := bcell hb2; (try simp only [dw] at hc2 hf2); have hz2_0 : w.heap.size < w2.heap.size := szl hb2 (by go_size); have hz2_1 : w.heap.size + 1 < w2.heap.size := szl hb2 (by go_size); have hz2_2 : w.heap.size + 1 + 1 < w2.heap.size := szl hb2 (by go_size))
  | (go_at_call 148; ((with_reducible refine (cmp_fact HZ.out (hr1.below hb2) hr2).mono ?_); rintro e5 w5 ⟨rfl, hb5⟩); obtain ⟨hc5, hf5⟩ := bcell hb5; (try simp only [dw] at hc5 hf5); have hz5_0 : w.heap.size < w5.heap.size := szl hb5 (by go_size); have hz5_1 : w.heap.size + 1 < w5.heap.size := szl hb5 (by go_size); have hz5_2 : w.heap.size + 1 + 1 < w5.heap.size := szl hb5 (by go_size))
  | (go_at_call 149; ((with_reducible refine (subWords_num (hr2.below hb5) ((hr1.below hb2).below hb5) HL2.out (Nat.le_of_lt HC.out)).mono ?_); rintro e3 w3 ⟨A3, n3, c3, rfl, hr3, hb3⟩); obtain ⟨hc3, hf3⟩ := bcell hb3; (try simp only [dw] at hc3 hf3); have hz3_0 : w.heap.size < w3.heap.size := szl hb3 (by go_size); have hz3_1 : w.heap.size + 1 < w3.heap.size := szl hb3 (by go_size); have hz3_2 : w.heap.size + 1 + 1 < w3.heap.size := szl hb3 (by go_size))
  | (go_at_call 116; ((with_reducible refine (made_num hr3).mono ?_); rintro e4 w4 ⟨s4, A4, n4, c4, rfl, hr4, hb4⟩); obtain ⟨hc4, hf4⟩ := bcell hb4; (try simp only [dw] at hc4 hf4); have hz4_0 : w.heap.size < w4.heap.size := szl hb4 (by go_size); have hz4_1 : w.heap.size + 1 < w4.heap.size := szl hb4 (by go_size); have hz4_2 : w.heap.size + 1 + 1 < w4.heap.size := szl hb4 (by go_size)))
 exact bodyPost_ret (v := .agg #[.int .i64 (s4), .slice (A4) (n4) (c4)]) (by simp [results, Tryz.results103, go_sem, hc4, hz3_2, hc3, hz5_2, hc5, hz2_2, hc2, hz1_2, hc1]) rfl (int_ret rfl ((hr4.put (x := 0) (B := none) (m := 0) (d := 0) rfl (by simp [go_sem, hc4, hz3_2, hc3, hz5_2, hc5, hz2_2, hc2, hz1_2, hc1]) (by simp [go_sem, hc4, hz3_2, hc3, hz5_2, hc5, hz2_2, hc2, hz1_2, hc1])).to (by have h1 := sg_of HG.out HX.out; have h2 := sg_of HG'.out HY.out; have h3 := HE.out; have h4 := HC.out; ((rw [h1, h2]; cases g <;> cases g' <;> simp [sg] at h3 ⊢ <;> omega)))) (bq (by with_reducible repeat' first | assumption | constructor | go_size)))
theorem add_left_any {p : Addr} (h : Rep w s (some p) n c a) (h' : Rep w t (B) m d b) (hl : Lim a) (hl' : Lim b) :
  Calls Tryz.prog 103 #[iv s (some p) n c, iv t (B) m d] w (IntPost (a + b) w) := by
 by_cases e : decide (a < 0) = decide (b < 0)
 ·exact add_left_same  h h' hl hl' rfl rfl e
 ·by_cases hc : b.natAbs ≤ a.natAbs
  ·exact add_left_ge  h h' hl hl' rfl rfl e hc
  ·exact add_left_lt  h h' hl hl' rfl rfl e (by omega)
theorem add_right_same {q : Addr} {g g' : Bool} (h : Rep w s (none) n c a) (h' : Rep w t (some q) m d b) (hl : Lim a) (hl' : Lim b) (hg : decide (a < 0) = g) (hg' : decide (b < 0) = g') (e : g = g') :
  Calls Tryz.prog 103 #[iv s (none) n c, iv t (some q) m d] w (IntPost (a + b) w) := by
 have qe := eql_nil
 have qb : (g == g') = true := by rw [e]; simp
 have HR1 := qh (show ∀ W, Below w.heap.size w W → Rep W (s) (none) (n) (c) (a) from fun W hb => h.below hb)
 have HR2 := qh (show ∀ W, Below w.heap.size w W → Rep W (t) (some q) (m) (d) (b) from fun W hb => h'.below hb)
 have HL1 := qh hl.few
 have HL2 := qh hl'.few
 obtain ⟨x, hx⟩ : ∃ x, (a).natAbs = x := ⟨_, rfl⟩
 obtain ⟨y, hy⟩ : ∃ y, (b).natAbs = y := ⟨_, rfl⟩
 rw [hx] at HL1
 rw [hy] at HL2
 have HX := qh hx
 have HY := qh hy
 clear h h' hl hl' hx hy
 have HG := qh hg
 have HG' := qh hg'
 have HE := qh e
 clear hg hg' e
 go_enter Tryz.func103, Tryz.ntmps103
 go_wp2_with (first
  | (go_at_call 115; ((with_reducible refine (parts_sg (HR1.out _ (bq (by with_reducible repeat' first | assumption | constructor | go_size))) HG.out HX.out).mono ?_); rintro e1 w1 ⟨A1, n1, c1, rfl, hr1, hb1⟩); obtain ⟨hc1, hf1⟩ := bcell hb1; (try simp only [dw] at hc1 hf1); have hz1_0 : w.heap.size < w1.heap.size := szl hb1 (by go_size); have hz1_1 : w.heap.size + 1 < w1.heap.size := szl hb1 (by go_size); have hz1_2 : w.heap.size + 1 + 1 < w1.heap.size := szl hb1 (by go_size))
  | (go_at_call 115; ((with_reducible refine (parts_sg (HR2.out _ (bq (by with_reducible repeat' first | assumption | constructor | go_size))) HG'.out HY.out).mono ?_); rintro e2 w2 ⟨A2, n2, c2, rfl, hr2, hb2⟩); obtain ⟨hc2, hf2⟩ := bcell hb2; (try simp only [dw] at hc2 hf2); have hz2_0 : w.heap.size < w2.heap.size := szl hb2 (by go_size); have hz2_1 : w.heap.size + 1 < w2.heap.size := szl hb2 (by go_size); have hz2_2 : w.heap.size + 1 + 1 < w2.heap.size := szl hb2 (by go_size))
  | (go_at_call 147; ((with_reducible refine (addWords_num (hr1.below hb2) hr2 HL1.out HL2.out).mono ?_); rintro e3 w3 ⟨A3, n3, c3, rfl, hr3, hb3⟩); obtain ⟨hc3, hf3⟩ := bcell hb3; (try simp only [dw] at hc3 hf3); have hz3_0 : w.heap.size < w3.heap.size := szl hb3 (by go_size); have hz3_1 : w.heap.size + 1 < w3.heap.size := szl hb3 (by go_size); have hz3_2 : w.heap.size + 1 + 1 < w3.heap.size := szl hb3 (by go_size))
  | (go_at_call 116; ((with_reducible refine (made_num hr3).mono ?_); rintro e4 w4 ⟨s4, A4, n4, c4, rfl, hr4, hb4⟩); obtain ⟨hc4, hf4⟩ := bcell hb4; (try simp only [dw] at hc4 hf4); have hz4_0 : w.heap.size < w4.heap.size := szl hb4 (by go_size); have hz4_1 : w.heap.size + 1 < w4.heap.size := szl hb4 (by go_size); have hz4_2 : w.heap.size + 1 + 1 < w4.heap.size := szl hb4 (by go_size)))
 exact bodyPost_ret (v := .agg #[.int .i64 (s4), .slice (A4) (n4) (c4)]) (by simp [results, Tryz.results103, go_sem, hc4, hz3_2, hc3, hz2_2, hc2, hz1_2, hc1]) rfl (int_ret rfl ((hr4.put (x := 0) (B := none) (m := 0) (d := 0) rfl (by simp [go_sem, hc4, hz3_2, hc3, hz2_2, hc2, hz1_2, hc1]) (by simp [go_sem, hc4, hz3_2, hc3, hz2_2, hc2, hz1_2, hc1])).to (by have h1 := sg_of HG.out HX.out; have h2 := sg_of HG'.out HY.out; have h3 := HE.out; ((subst h3; rw [h1, h2]; cases g <;> simp [sg] <;> omega)))) (bq (by with_reducible repeat' first | assumption | constructor | go_size)))
theorem add_right_ge {q : Addr} {g g' : Bool} (h : Rep w s (none) n c a) (h' : Rep w t (some q) m d b) (hl : Lim a) (hl' : Lim b) (hg : decide (a < 0) = g) (hg' : decide (b < 0) = g') (e : g ≠ g') (hc : b.natAbs ≤ a.natAbs) :
  Calls Tryz.prog 103 #[iv s (none) n c, iv t (some q) m d] w (IntPost (a + b) w) := by
 have qe := eql_nil
 have qb : (g == g') = false := by simp; exact e
 have hz : sgn ((a.natAbs : Int) - (b.natAbs : Int)) = if a.natAbs = b.natAbs then 0 else 1 := by unfold sgn; split <;> split <;> omega
 obtain ⟨z, hzz, hz0⟩ : ∃ z, sgn ((a.natAbs : Int) - (b.natAbs : Int)) = z ∧ 0 ≤ z := ⟨_, hz, by split <;> omega⟩
 clear hz
 have HR1 := qh (show ∀ W, Below w.heap.size w W → Rep W (s) (none) (n) (c) (a) from fun W hb => h.below hb)
 have HR2 := qh (show ∀ W, Below w.heap.size w W → Rep W (t) (some q) (m) (d) (b) from fun W hb => h'.below hb)
 have HL1 := qh hl.few
 have HL2 := qh hl'.few
 obtain ⟨x, hx⟩ : ∃ x, (a).natAbs = x := ⟨_, rfl⟩
 obtain ⟨y, hy⟩ : ∃ y, (b).natAbs = y := ⟨_, rfl⟩
 rw [hx] at HL1
 rw [hy] at HL2
 have HX := qh hx
 have HY := qh hy
 clear h h' hl hl' hx hy
 have HG := qh hg
 have HG' := qh hg'
 have HE := qh e
 rw [HX.out, HY.out] at hc hzz
 have HC := qh hc
 have HZ := qh hzz
 clear hg hg' e hc hzz
 go_enter Tryz.func103, Tryz.ntmps103
 go_wp2_with (first
  | (go_at_call 115; ((with_reducible refine (parts_sg (HR1.out _ (bq (by with_reducible repeat' first | assumption | constructor | go_size))) HG.out HX.out).mono ?_); rintro e1 w1 ⟨A1, n1, c1, rfl, hr1, hb1⟩); obtain ⟨hc1, hf1⟩ := bcell hb1; (try simp only [dw] at hc1 hf1); have hz1_0 : w.heap.size < w1.heap.size := szl hb1 (by go_size); have hz1_1 : w.heap.size + 1 < w1.heap.size := szl hb1 (by go_size); have hz1_2 : w.heap.size + 1 + 1 < w1.heap.size := szl hb1 (by go_size))
  | (go_at_call 115; ((with_reducible refine (parts_sg (HR2.out _ (bq (by with_reducible repeat' first | assumption | constructor | go_size))) HG'.out HY.out).mono ?_); rintro e2 w2 ⟨A2, n2, c2, rfl, hr2, hb2⟩); obtain ⟨hc2, hf2⟩ := bcell hb2; (try simp only [dw] at hc2 hf2); have hz2_0 : w.heap.size < w2.heap.size := szl hb2 (by go_size); have hz2_1 : w.heap.size + 1 < w2.heap.size := szl hb2 (by go_size); have hz2_2 : w.heap.size + 1 + 1 < w2.heap.size := szl hb2 (by go_size))
  | (go_at_call 148; ((with_reducible refine (cmp_fact HZ.out (hr1.below hb2) hr2).mono ?_); rintro e5 w5 ⟨rfl, hb5⟩); obtain ⟨hc5, hf5⟩ := bcell hb5; (try simp only [dw] at hc5 hf5); have hz5_0 : w.heap.size < w5.heap.size := szl hb5 (by go_size); have hz5_1 : w.heap.size + 1 < w5.heap.size := szl hb5 (by go_size); have hz5_2 : w.heap.size + 1 + 1 < w5.heap.size := szl hb5 (by go_size))
  | (go_at_call 149; ((with_reducible refine (subWords_num (((hr1.below hb2).below hb5)) (hr2.below hb5) HL1.out HC.out).mono ?_); rintro e3 w3 ⟨A3, n3, c3, rfl, hr3, hb3⟩); obtain ⟨hc3, hf3⟩ := bcell hb3; (try simp only [dw] at hc3 hf3); have hz3_0 : w.heap.size < w3.heap.size := szl hb3 (by go_size); have hz3_1 : w.heap.size + 1 < w3.heap.size := szl hb3 (by go_size); have hz3_2 : w.heap.size + 1 + 1 < w3.heap.size := szl hb3 (by go_size))
  | (go_at_call 116; ((with_reducible refine (made_num hr3).mono ?_); rintro e4 w4 ⟨s4, A4, n4, c4, rfl, hr4, hb4⟩); obtain ⟨hc4, hf4⟩ := bcell hb4; (try simp only [dw] at hc4 hf4); have hz4_0 : w.heap.size < w4.heap.size := szl hb4 (by go_size); have hz4_1 : w.heap.size + 1 < w4.heap.size := szl hb4 (by go_size); have hz4_2 : w.heap.size + 1 + 1 < w4.heap.size := szl hb4 (by go_size)))
 exact bodyPost_ret (v := .agg #[.int .i64 (s4), .slice (A4) (n4) (c4)]) (by simp [results, Tryz.results103, go_sem, hc4, hz3_2, hc3, hz5_2, hc5, hz2_2, hc2, hz1_2, hc1]) rfl (int_ret rfl ((hr4.put (x := 0) (B := none) (m := 0) (d := 0) rfl (by simp [go_sem, hc4, hz3_2, hc3, hz5_2, hc5, hz2_2, hc2, hz1_2, hc1]) (by simp [go_sem, hc4, hz3_2, hc3, hz5_2, hc5, hz2_2, hc2, hz1_2, hc1])).to (by have h1 := sg_of HG.out HX.out; have h2 := sg_of HG'.out HY.out; have h3 := HE.out; have h4 := HC.out; ((rw [h1, h2]; cases g <;> cases g' <;> simp [sg] at h3 ⊢ <;> omega)))) (bq (by with_reducible repeat' first | assumption | constructor | go_size)))
theorem add_right_lt {q : Addr} {g g' : Bool} (h : Rep w s (none) n c a) (h' : Rep w t (some q) m d b) (hl : Lim a) (hl' : Lim b) (hg : decide (a < 0) = g) (hg' : decide (b < 0) = g') (e : g ≠ g') (hc : a.natAbs < b.natAbs) :
  Calls Tryz.prog 103 #[iv s (none) n c, iv t (some q) m d] w (IntPost (a + b) w) := by
 have qe := eql_nil
 have qb : (g == g') = false := by simp; exact e
 have hzz : sgn ((a.natAbs : Int) - (b.natAbs : Int)) = -1 := by unfold sgn; split <;> omega
 have HR1 := qh (show ∀ W, Below w.heap.size w W → Rep W (s) (none) (n) (c) (a) from fun W hb => h.below hb)
 have HR2 := qh (show ∀ W, Below w.heap.size w W → Rep W (t) (some q) (m) (d) (b) from fun W hb => h'.below hb)
 have HL1 := qh hl.few
 have HL2 := qh hl'.few
 obtain ⟨x, hx⟩ : ∃ x, (a).natAbs = x := ⟨_, rfl⟩
 obtain ⟨y, hy⟩ : ∃ y, (b).natAbs = y := ⟨_, rfl⟩
 rw [hx] at HL1
 rw [hy] at HL2
 have HX := qh hx
 have HY := qh hy
 clear h h' hl hl' hx hy
 have HG := qh hg
 have HG' := qh hg'
 have HE := qh e
 rw [HX.out, HY.out] at hc hzz
 have HC := qh hc
 have HZ := qh hzz
 clear hg hg' e hc hzz
 go_enter Tryz.func103, Tryz.ntmps103
 go_wp2_with (first
  | (go_at_call 115; ((with_reducible refine (parts_sg (HR1.out _ (bq (by with_reducible repeat' first | assumption | constructor | go_size))) HG.out HX.out).mono ?_); rintro e1 w1 ⟨A1, n1, c1, rfl, hr1, hb1⟩); obtain ⟨hc1, hf1⟩ := bcell hb1; (try simp only [dw] at hc1 hf1); have hz1_0 : w.heap.size < w1.heap.size := szl hb1 (by go_size); have hz1_1 : w.heap.size + 1 < w1.heap.size := szl hb1 (by go_size); have hz1_2 : w.heap.size + 1 + 1 < w1.heap.size := szl hb1 (by go_size))
  | (go_at_call 115; ((with_reducible refine (parts_sg (HR2.out _ (bq (by with_reducible repeat' first | assumption | constructor | go_size))) HG'.out HY.out).mono ?_); rintro e2 w2 ⟨A2, n2, c2, rfl, hr2, hb2⟩); obtain ⟨hc2, hf2⟩ := bcell hb2; (try simp only [dw] at hc2 hf2); have hz2_0 : w.heap.size < w2.heap.size := szl hb2 (by go_size); have hz2_1 : w.heap.size + 1 < w2.heap.size := szl hb2 (by go_size); have hz2_2 : w.heap.size + 1 + 1 < w2.heap.size := szl hb2 (by go_size))
  | (go_at_call 148; ((with_reducible refine (cmp_fact HZ.out (hr1.below hb2) hr2).mono ?_); rintro e5 w5 ⟨rfl, hb5⟩); obtain ⟨hc5, hf5⟩ := bcell hb5; (try simp only [dw] at hc5 hf5); have hz5_0 : w.heap.size < w5.heap.size := szl hb5 (by go_size); have hz5_1 : w.heap.size + 1 < w5.heap.size := szl hb5 (by go_size); have hz5_2 : w.heap.size + 1 + 1 < w5.heap.size := szl hb5 (by go_size))
  | (go_at_call 149; ((with_reducible refine (subWords_num (hr2.below hb5) ((hr1.below hb2).below hb5) HL2.out (Nat.le_of_lt HC.out)).mono ?_); rintro e3 w3 ⟨A3, n3, c3, rfl, hr3, hb3⟩); obtain ⟨hc3, hf3⟩ := bcell hb3; (try simp only [dw] at hc3 hf3); have hz3_0 : w.heap.size < w3.heap.size := szl hb3 (by go_size); have hz3_1 : w.heap.size + 1 < w3.heap.size := szl hb3 (by go_size); have hz3_2 : w.heap.size + 1 + 1 < w3.heap.size := szl hb3 (by go_size))
  | (go_at_call 116; ((with_reducible refine (made_num hr3).mono ?_); rintro e4 w4 ⟨s4, A4, n4, c4, rfl, hr4, hb4⟩); obtain ⟨hc4, hf4⟩ := bcell hb4; (try simp only [dw] at hc4 hf4); have hz4_0 : w.heap.size < w4.heap.size := szl hb4 (by go_size); have hz4_1 : w.heap.size + 1 < w4.heap.size := szl hb4 (by go_size); have hz4_2 : w.heap.size + 1 + 1 < w4.heap.size := szl hb4 (by go_size)))
 exact bodyPost_ret (v := .agg #[.int .i64 (s4), .slice (A4) (n4) (c4)]) (by simp [results, Tryz.results103, go_sem, hc4, hz3_2, hc3, hz5_2, hc5, hz2_2, hc2, hz1_2, hc1]) rfl (int_ret rfl ((hr4.put (x := 0) (B := none) (m := 0) (d := 0) rfl (by simp [go_sem, hc4, hz3_2, hc3, hz5_2, hc5, hz2_2, hc2, hz1_2, hc1]) (by simp [go_sem, hc4, hz3_2, hc3, hz5_2, hc5, hz2_2, hc2, hz1_2, hc1])).to (by have h1 := sg_of HG.out HX.out; have h2 := sg_of HG'.out HY.out; have h3 := HE.out; have h4 := HC.out; ((rw [h1, h2]; cases g <;> cases g' <;> simp [sg] at h3 ⊢ <;> omega)))) (bq (by with_reducible repeat' first | assumption | constructor | go_size)))
theorem add_right_any {q : Addr} (h : Rep w s (none) n c a) (h' : Rep w t (some q) m d b) (hl : Lim a) (hl' : Lim b) :
  Calls Tryz.prog 103 #[iv s (none) n c, iv t (some q) m d] w (IntPost (a + b) w) := by
 by_cases e : decide (a < 0) = decide (b < 0)
 ·exact add_right_same  h h' hl hl' rfl rfl e
 ·by_cases hc : b.natAbs ≤ a.natAbs
  ·exact add_right_ge  h h' hl hl' rfl rfl e hc
  ·exact add_right_lt  h h' hl hl' rfl rfl e (by omega)
theorem add_over_same {cc : Int} (hw : wrap64 (s + t) = cc) (qo : (decide (s < cc) == decide (0 < t)) = false) {g g' : Bool} (h : Rep w s (none) n c a) (h' : Rep w t (none) m d b) (hl : Lim a) (hl' : Lim b) (hg : decide (a < 0) = g) (hg' : decide (b < 0) = g') (e : g = g') :
  Calls Tryz.prog 103 #[iv s (none) n c, iv t (none) m d] w (IntPost (a + b) w) := by
 have qe := eql_nil
 have qb : (g == g') = true := by rw [e]; simp
 have HR1 := qh (show ∀ W, Below w.heap.size w W → Rep W (s) (none) (n) (c) (a) from fun W hb => h.below hb)
 have HR2 := qh (show ∀ W, Below w.heap.size w W → Rep W (t) (none) (m) (d) (b) from fun W hb => h'.below hb)
 have HL1 := qh hl.few
 have HL2 := qh hl'.few
 obtain ⟨x, hx⟩ : ∃ x, (a).natAbs = x := ⟨_, rfl⟩
 obtain ⟨y, hy⟩ : ∃ y, (b).natAbs = y := ⟨_, rfl⟩
 rw [hx] at HL1
 rw [hy] at HL2
 have HX := qh hx
 have HY := qh hy
 clear h h' hl hl' hx hy
 have HG := qh hg
 have HG' := qh hg'
 have HE := qh e
 clear hg hg' e
 go_enter Tryz.func103, Tryz.ntmps103
 go_wp2_with (first
  | (go_at_call 115; ((with_reducible refine (parts_sg (HR1.out _ (bq (by with_reducible repeat' first | assumption | constructor | go_size))) HG.out HX.out).mono ?_); rintro e1 w1 ⟨A1, n1, c1, rfl, hr1, hb1⟩); obtain ⟨hc1, hf1⟩ := bcell hb1; (try simp only [dw] at hc1 hf1); have hz1_0 : w.heap.size < w1.heap.size := szl hb1 (by go_size); have hz1_1 : w.heap.size + 1 < w1.heap.size := szl hb1 (by go_size); have hz1_2 : w.heap.size + 1 + 1 < w1.heap.size := szl hb1 (by go_size))
  | (go_at_call 115; ((with_reducible refine (parts_sg (HR2.out _ (bq (by with_reducible repeat' first | assumption | constructor | go_size))) HG'.out HY.out).mono ?_); rintro e2 w2 ⟨A2, n2, c2, rfl, hr2, hb2⟩); obtain ⟨hc2, hf2⟩ := bcell hb2; (try simp only [dw] at hc2 hf2); have hz2_0 : w.heap.size < w2.heap.size := szl hb2 (by go_size); have hz2_1 : w.heap.size + 1 < w2.heap.size := szl hb2 (by go_size); have hz2_2 : w.heap.size + 1 + 1 < w2.heap.size := szl hb2 (by go_size))
  | (go_at_call 147; ((with_reducible refine (addWords_num (hr1.below hb2) hr2 HL1.out HL2.out).mono ?_); rintro e3 w3 ⟨A3, n3, c3, rfl, hr3, hb3⟩); obtain ⟨hc3, hf3⟩ := bcell hb3; (try simp only [dw] at hc3 hf3); have hz3_0 : w.heap.size < w3.heap.size := szl hb3 (by go_size); have hz3_1 : w.heap.size + 1 < w3.heap.size := szl hb3 (by go_size); have hz3_2 : w.heap.size + 1 + 1 < w3.heap.size := szl hb3 (by go_size))
  | (go_at_call 116; ((with_reducible refine (made_num hr3).mono ?_); rintro e4 w4 ⟨s4, A4, n4, c4, rfl, hr4, hb4⟩); obtain ⟨hc4, hf4⟩ := bcell hb4; (try simp only [dw] at hc4 hf4); have hz4_0 : w.heap.size < w4.heap.size := szl hb4 (by go_size); have hz4_1 : w.heap.size + 1 < w4.heap.size := szl hb4 (by go_size); have hz4_2 : w.heap.size + 1 + 1 < w4.heap.size := szl hb4 (by go_size)))
 exact bodyPost_ret (v := .agg #[.int .i64 (s4), .slice (A4) (n4) (c4)]) (by simp [results, Tryz.results103, go_sem, hc4, hz3_2, hc3, hz2_2, hc2, hz1_2, hc1]) rfl (int_ret rfl ((hr4.put (x := 0) (B := none) (m := 0) (d := 0) rfl (by simp [go_sem, hc4, hz3_2, hc3, hz2_2, hc2, hz1_2, hc1]) (by simp [go_sem, hc4, hz3_2, hc3, hz2_2, hc2, hz1_2, hc1])).to (by have h1 := sg_of HG.out HX.out; have h2 := sg_of HG'.out HY.out; have h3 := HE.out; ((subst h3; rw [h1, h2]; cases g <;> simp [sg] <;> omega)))) (bq (by with_reducible repeat' first | assumption | constructor | go_size)))
theorem add_over_ge {cc : Int} (hw : wrap64 (s + t) = cc) (qo : (decide (s < cc) == decide (0 < t)) = false) {g g' : Bool} (h : Rep w s (none) n c a) (h' : Rep w t (none) m d b) (hl : Lim a) (hl' : Lim b) (hg : decide (a < 0) = g) (hg' : decide (b < 0) = g') (e : g ≠ g') (hc : b.natAbs ≤ a.natAbs) :
  Calls Tryz.prog 103 #[iv s (none) n c, iv t (none) m d] w (IntPost (a + b) w) := by
 have qe := eql_nil
 have qb : (g == g') = false := by simp; exact e
 have hz : sgn ((a.natAbs : Int) - (b.natAbs : Int)) = if a.natAbs = b.natAbs then 0 else 1 := by unfold sgn; split <;> split <;> omega
 obtain ⟨z, hzz, hz0⟩ : ∃ z, sgn ((a.natAbs : Int) - (b.natAbs : Int)) = z ∧ 0 ≤ z := ⟨_, hz, by split <;> omega⟩
 clear hz
 have HR1 := qh (show ∀ W, Below w.heap.size w W → Rep W (s) (none) (n) (c) (a) from fun W hb => h.below hb)
 have HR2 := qh (show ∀ W, Below w.heap.size w W → Rep W (t) (none) (m) (d) (b) from fun W hb => h'.below hb)
 have HL1 := qh hl.few
 have HL2 := qh hl'.few
 obtain ⟨x, hx⟩ : ∃ x, (a).natAbs = x := ⟨_, rfl⟩
 obtain ⟨y, hy⟩ : ∃ y, (b).natAbs = y := ⟨_, rfl⟩
 rw [hx] at HL1
 rw [hy] at HL2
 have HX := qh hx
 have HY := qh hy
 clear h h' hl hl' hx hy
 have HG := qh hg
 have HG' := qh hg'
 have HE := qh e
 rw [HX.out, HY.out] at hc hzz
 have HC := qh hc
 have HZ := qh hzz
 clear hg hg' e hc hzz
 go_enter Tryz.func103, Tryz.ntmps103
 go_wp2_with (first
  | (go_at_call 115; ((with_reducible refine (parts_sg (HR1.out _ (bq (by with_reducible repeat' first | assumption | constructor | go_size))) HG.out HX.out).mono ?_); rintro e1 w1 ⟨A1, n1, c1, rfl, hr1, hb1⟩); obtain ⟨hc1, hf1⟩ := bcell hb1; (try simp only [dw] at hc1 hf1); have hz1_0 : w.heap.size < w1.heap.size := szl hb1 (by go_size); have hz1_1 : w.heap.size + 1 < w1.heap.size := szl hb1 (by go_size); have hz1_2 : w.heap.size + 1 + 1 < w1.heap.size := szl hb1 (by go_size))
  | (go_at_call 115; ((with_reducible refine (parts_sg (HR2.out _ (bq (by with_reducible repeat' first | assumption | constructor | go_size))) HG'.out HY.out).mono ?_); rintro e2 w2 ⟨A2, n2, c2, rfl, hr2, hb2⟩); obtain ⟨hc2, hf2⟩ := bcell hb2; (try simp only [dw] at hc2 hf2); have hz2_0 : w.heap.size < w2.heap.size := szl hb2 (by go_size); have hz2_1 : w.heap.size + 1 < w2.heap.size := szl hb2 (by go_size); have hz2_2 : w.heap.size + 1 + 1 < w2.heap.size := szl hb2 (by go_size))
  | (go_at_call 148; ((with_reducible refine (cmp_fact HZ.out (hr1.below hb2) hr2).mono ?_); rintro e5 w5 ⟨rfl, hb5⟩); obtain ⟨hc5, hf5⟩ := bcell hb5; (try simp only [dw] at hc5 hf5); have hz5_0 : w.heap.size < w5.heap.size := szl hb5 (by go_size); have hz5_1 : w.heap.size + 1 < w5.heap.size := szl hb5 (by go_size); have hz5_2 : w.heap.size + 1 + 1 < w5.heap.size := szl hb5 (by go_size))
  | (go_at_call 149; ((with_reducible refine (subWords_num (((hr1.below hb2).below hb5)) (hr2.below hb5) HL1.out HC.out).mono ?_); rintro e3 w3 ⟨A3, n3, c3, rfl, hr3, hb3⟩); obtain ⟨hc3, hf3⟩ := bcell hb3; (try simp only [dw] at hc3 hf3); have hz3_0 : w.heap.size < w3.heap.size := szl hb3 (by go_size); have hz3_1 : w.heap.size + 1 < w3.heap.size := szl hb3 (by go_size); have hz3_2 : w.heap.size + 1 + 1 < w3.heap.size := szl hb3 (by go_size))
  | (go_at_call 116; ((with_reducible refine (made_num hr3).mono ?_); rintro e4 w4 ⟨s4, A4, n4, c4, rfl, hr4, hb4⟩); obtain ⟨hc4, hf4⟩ := bcell hb4; (try simp only [dw] at hc4 hf4); have hz4_0 : w.heap.size < w4.heap.size := szl hb4 (by go_size); have hz4_1 : w.heap.size + 1 < w4.heap.size := szl hb4 (by go_size); have hz4_2 : w.heap.size + 1 + 1 < w4.heap.size := szl hb4 (by go_size)))
 exact bodyPost_ret (v := .agg #[.int .i64 (s4), .slice (A4) (n4) (c4)]) (by simp [results, Tryz.results103, go_sem, hc4, hz3_2, hc3, hz5_2, hc5, hz2_2, hc2, hz1_2, hc1]) rfl (int_ret rfl ((hr4.put (x := 0) (B := none) (m := 0) (d := 0) rfl (by simp [go_sem, hc4, hz3_2, hc3, hz5_2, hc5, hz2_2, hc2, hz1_2, hc1]) (by simp [go_sem, hc4, hz3_2, hc3, hz5_2, hc5, hz2_2, hc2, hz1_2, hc1])).to (by have h1 := sg_of HG.out HX.out; have h2 := sg_of HG'.out HY.out; have h3 := HE.out; have h4 := HC.out; ((rw [h1, h2]; cases g <;> cases g' <;> simp [sg] at h3 ⊢ <;> omega)))) (bq (by with_reducible repeat' first | assumption | constructor | go_size)))
theorem add_over_lt {cc : Int} (hw : wrap64 (s + t) = cc) (qo : (decide (s < cc) == decide (0 < t)) = false) {g g' : Bool} (h : Rep w s (none) n c a) (h' : Rep w t (none) m d b) (hl : Lim a) (hl' : Lim b) (hg : decide (a < 0) = g) (hg' : decide (b < 0) = g') (e : g ≠ g') (hc : a.natAbs < b.natAbs) :
  Calls Tryz.prog 103 #[iv s (none) n c, iv t (none) m d] w (IntPost (a + b) w) := by
 have qe := eql_nil
 have qb : (g == g') = false := by simp; exact e
 have hzz : sgn ((a.natAbs : Int) - (b.natAbs : Int)) = -1 := by unfold sgn; split <;> omega
 have HR1 := qh (show ∀ W, Below w.heap.size w W → Rep W (s) (none) (n) (c) (a) from fun W hb => h.below hb)
 have HR2 := qh (show ∀ W, Below w.heap.size w W → Rep W (t) (none) (m) (d) (b) from fun W hb => h'.below hb)
 have HL1 := qh hl.few
 have HL2 := qh hl'.few
 obtain ⟨x, hx⟩ : ∃ x, (a).natAbs = x := ⟨_, rfl⟩
 obtain ⟨y, hy⟩ : ∃ y, (b).natAbs = y := ⟨_, rfl⟩
 rw [hx] at HL1
 rw [hy] at HL2
 have HX := qh hx
 have HY := qh hy
 clear h h' hl hl' hx hy
 have HG := qh hg
 have HG' := qh hg'
 have HE := qh e
 rw [HX.out, HY.out] at hc hzz
 have HC := qh hc
 have HZ := qh hzz
 clear hg hg' e hc hzz
 go_enter Tryz.func103, Tryz.ntmps103
 go_wp2_with (first
  | (go_at_call 115; ((with_reducible refine (parts_sg (HR1.out _ (bq (by with_reducible repeat' first | assumption | constructor | go_size))) HG.out HX.out).mono ?_); rintro e1 w1 ⟨A1, n1, c1, rfl, hr1, hb1⟩); obtain ⟨hc1, hf1⟩ := bcell hb1; (try simp only [dw] at hc1 hf1); have hz1_0 : w.heap.size < w1.heap.size := szl hb1 (by go_size); have hz1_1 : w.heap.size + 1 < w1.heap.size := szl hb1 (by go_size); have hz1_2 : w.heap.size + 1 + 1 < w1.heap.size := szl hb1 (by go_size))
  | (go_at_call 115; ((with_reducible refine (parts_sg (HR2.out _ (bq (by with_reducible repeat' first | assumption | constructor | go_size))) HG'.out HY.out).mono ?_); rintro e2 w2 ⟨A2, n2, c2, rfl, hr2, hb2⟩); obtain ⟨hc2, hf2⟩ := bcell hb2; (try simp only [dw] at hc2 hf2); have hz2_0 : w.heap.size < w2.heap.size := szl hb2 (by go_size); have hz2_1 : w.heap.size + 1 < w2.heap.size := szl hb2 (by go_size); have hz2_2 : w.heap.size + 1 + 1 < w2.heap.size := szl hb2 (by go_size))
  | (go_at_call 148; ((with_reducible refine (cmp_fact HZ.out (hr1.below hb2) hr2).mono ?_); rintro e5 w5 ⟨rfl, hb5⟩); obtain ⟨hc5, hf5⟩ := bcell hb5; (try simp only [dw] at hc5 hf5); have hz5_0 : w.heap.size < w5.heap.size := szl hb5 (by go_size); have hz5_1 : w.heap.size + 1 < w5.heap.size := szl hb5 (by go_size); have hz5_2 : w.heap.size + 1 + 1 < w5.heap.size := szl hb5 (by go_size))
  | (go_at_call 149; ((with_reducible refine (subWords_num (hr2.below hb5) ((hr1.below hb2).below hb5) HL2.out (Nat.le_of_lt HC.out)).mono ?_); rintro e3 w3 ⟨A3, n3, c3, rfl, hr3, hb3⟩); obtain ⟨hc3, hf3⟩ := bcell hb3; (try simp only [dw] at hc3 hf3); have hz3_0 : w.heap.size < w3.heap.size := szl hb3 (by go_size); have hz3_1 : w.heap.size + 1 < w3.heap.size := szl hb3 (by go_size); have hz3_2 : w.heap.size + 1 + 1 < w3.heap.size := szl hb3 (by go_size))
  | (go_at_call 116; ((with_reducible refine (made_num hr3).mono ?_); rintro e4 w4 ⟨s4, A4, n4, c4, rfl, hr4, hb4⟩); obtain ⟨hc4, hf4⟩ := bcell hb4; (try simp only [dw] at hc4 hf4); have hz4_0 : w.heap.size < w4.heap.size := szl hb4 (by go_size); have hz4_1 : w.heap.size + 1 < w4.heap.size := szl hb4 (by go_size); have hz4_2 : w.heap.size + 1 + 1 < w4.heap.size := szl hb4 (by go_size)))
 exact bodyPost_ret (v := .agg #[.int .i64 (s4), .slice (A4) (n4) (c4)]) (by simp [results, Tryz.results103, go_sem, hc4, hz3_2, hc3, hz5_2, hc5, hz2_2, hc2, hz1_2, hc1]) rfl (int_ret rfl ((hr4.put (x := 0) (B := none) (m := 0) (d := 0) rfl (by simp [go_sem, hc4, hz3_2, hc3, hz5_2, hc5, hz2_2, hc2, hz1_2, hc1]) (by simp [go_sem, hc4, hz3_2, hc3, hz5_2, hc5, hz2_2, hc2, hz1_2, hc1])).to (by have h1 := sg_of HG.out HX.out; have h2 := sg_of HG'.out HY.out; have h3 := HE.out; have h4 := HC.out; ((rw [h1, h2]; cases g <;> cases g' <;> simp [sg] at h3 ⊢ <;> omega)))) (bq (by with_reducible repeat' first | assumption | constructor | go_size)))
theorem add_over_any {cc : Int} (hw : wrap64 (s + t) = cc) (qo : (decide (s < cc) == decide (0 < t)) = false) (h : Rep w s (none) n c a) (h' : Rep w t (none) m d b) (hl : Lim a) (hl' : Lim b) :
  Calls Tryz.prog 103 #[iv s (none) n c, iv t (none) m d] w (IntPost (a + b) w) := by
 by_cases e : decide (a < 0) = decide (b < 0)
 ·exact add_over_same hw qo h h' hl hl' rfl rfl e
 ·by_cases hc : b.natAbs ≤ a.natAbs
  ·exact add_over_ge hw qo h h' hl hl' rfl rfl e hc
  ·exact add_over_lt hw qo h h' hl hl' rfl rfl e (by omega)
end
end Go.Proofs.YtoccfcpggomlaaaGreatDoor
