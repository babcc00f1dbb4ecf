/- The contracts of the sum, the difference, the quotient, the floor of fractions, and of their being the same. -/
import Derived.Test.YtoccfcpggomlaaaGreatDoorFd
set_option linter.unusedSimpArgs false
set_option linter.unusedVariables false
set_option maxRecDepth 100000
set_option maxHeartbeats 8000000
namespace Go.Proofs.YtoccfcpggomlaaaGreatDoor
open Go Go.RowKit

theorem isWhole_fact {w : World} {s t : Int} {A B : Option Addr} {n c m d : Nat} {x : Rat} {g : Bool} (hg : decide (x.den = 1) = g) (h : RepF w s A n c t B m d x) : Calls Tryz.prog 106 #[fv s A n c t B m d] w fun e w' => e = .returned (.bool g) ∧ Below w.heap.size w w' := hg ▸ isWhole_num h
theorem whole_fact {w : World} {s a : Int} {A : Option Addr} {n c : Nat} {x : Rat} (hx : (a : Rat) = x) (h : Rep w s A n c a) : Calls Tryz.prog 49 #[iv s A n c] w (FracPost x w) := hx ▸ whole_num h

section
variable {s t u v : Int} {A B C D : Option Addr} {n c m d i k j l : Nat} {w : World} {x y : Rat} {p q : Nat}
theorem fadd_whole (h : RepF w s A n c t B m d x) (h' : RepF w u C i k v D j l y) (hs : Sz p x) (hs' : Sz q y) (hpq : p + q + 1 < 100000) (hx : x.den = 1) (hy : y.den = 1) :
  Calls Tryz.prog 63 #[fv s A n c t B m d, fv u C i k v D j l] w (FracPost (x + y) w) := by
 have HA := qh h
 have HB := qh h'
 have L1 := qh (hs.limN (by omega))
 have L2 := qh (hs.limD (by omega))
 have L3 := qh (hs'.limN (by omega))
 have L4 := qh (hs'.limD (by omega))
 have L5 := qh (lim_of (hs.mulND hs') (by omega))
 have L6 := qh (lim_of (hs.mulDN hs') (by omega))
 have L7 := qh (lim_of (hs.mulD hs') (by omega))
 have L8 := qh (lim_of (hs.addN hs') hpq)
 have HE := qh (Rq.add_eq x y).symm
 have HN := qh (dens_ne x y)
 have HX := qh (show decide (x.den = 1) = true by simp [hx])
 have HY := qh (show decide (y.den = 1) = true by simp [hy])
 have HW := qh (Rq.add_whole hx hy).symm
 obtain ⟨z, hz⟩ : ∃ z, x + y = z := ⟨_, rfl⟩
 rw [hz] at HE HW ⊢
 clear h h' hs hs' hpq hx hy hz
 go_enter Tryz.func63, Tryz.ntmps63
 go_wp2_with (first
  | (go_at_call 106; (with_reducible show Calls _ _ #[fv s A n c t B m d] _ _); ((with_reducible refine (isWhole_fact HX.out (HA.out.below (bq (by with_reducible repeat' first | assumption | constructor | go_size)))).mono ?_); rintro e1 w1 ⟨rfl, hb1⟩); obtain ⟨hc1, hf1⟩ := bcell hb1; (try simp only [dw] at hc1 hf1); have hz1_0 : w.heap.size < w1.heap.size := szl hb1 (by go_size); have hz1_1 : w.heap.size + 1 < w1.heap.size := szl hb1 (by go_size); have hz1_2 : w.heap.size + 1 + 1 < w1.heap.size := szl hb1 (by go_size))
  | (go_at_call 106; (with_reducible show Calls _ _ #[fv u C i k v D j l] _ _); ((with_reducible refine (isWhole_fact HY.out (HB.out.below (bq (by with_reducible repeat' first | assumption | constructor | go_size)))).mono ?_); rintro e2 w2 ⟨rfl, hb2⟩); obtain ⟨hc2, hf2⟩ := bcell hb2; (try simp only [dw] at hc2 hf2); have hz2_0 : w.heap.size < w2.heap.size := szl hb2 (by go_size); have hz2_1 : w.heap.size + 1 < w2.heap.size := szl hb2 (by go_size); have hz2_2 : w.heap.size + 1 + 1 < w2.heap.size := szl hb2 (by go_size))
  | (go_at_call 103; ((with_reducible refine (add_num (HA.out.num.below (bq (by with_reducible repeat' first | assumption | constructor | go_size))) (HB.out.num.below (bq (by with_reducible repeat' first | assumption | constructor | go_size))) L1.out L3.out).mono ?_); rintro e4 w4 ⟨s4, A4, n4, c4, rfl, hr4, hb4⟩); obtain ⟨hc4, hf4⟩ := bcell hb4; (try simp only [dw] at hc4 hf4); have hz4_0 : w.heap.size < w4.heap.size := szl hb4 (by go_size); have hz4_1 : w.heap.size + 1 < w4.heap.size := szl hb4 (by go_size); have hz4_2 : w.heap.size + 1 + 1 < w4.heap.size := szl hb4 (by go_size))
  | (go_at_call 49; ((with_reducible refine (whole_fact HW.out hr4).mono ?_); rintro e3 w3 ⟨s3, A3, n3, c3, t3, B3, m3, d3, rfl, ⟨hr3, hq3⟩, hb3⟩); obtain ⟨hc3, hf3⟩ := bcell hb3; (try simp only [dw] at hc3 hf3); have hz3_0 : w.heap.size < w3.heap.size := szl hb3 (by go_size); have hz3_1 : w.heap.size + 1 < w3.heap.size := szl hb3 (by go_size); have hz3_2 : w.heap.size + 1 + 1 < w3.heap.size := szl hb3 (by go_size)))
 exact bodyPost_ret (v := .agg #[.int .i64 (s3), .slice (A3) (n3) (c3), .int .i64 (t3), .slice (B3) (m3) (d3)]) (by simp [results, Tryz.results63, go_sem, hc4, hz4_2, hc3, hz2_2, hc2, hz1_2, hc1, hz2_0, hz2_1, hz1_0, hz1_1]) rfl (frac_ret rfl ⟨(by with_reducible repeat first | assumption | apply rD | apply rN | apply rA | refine rP ?_ rfl (by simp [go_sem, hc4, hz4_2, hc3, hz2_2, hc2, hz1_2, hc1, hz2_0, hz2_1, hz1_0, hz1_1]) | refine rB ?_ ‹_›), (by with_reducible repeat first | assumption | apply rD | apply rN | apply rA | refine rP ?_ rfl (by simp [go_sem, hc4, hz4_2, hc3, hz2_2, hc2, hz1_2, hc1, hz2_0, hz2_1, hz1_0, hz1_1]) | refine rB ?_ ‹_›)⟩ (bq (by with_reducible repeat' first | assumption | constructor | go_size)))

theorem fadd_parts (h : RepF w s A n c t B m d x) (h' : RepF w u C i k v D j l y) (hs : Sz p x) (hs' : Sz q y) (hpq : p + q + 1 < 100000) (hx : x.den ≠ 1) :
  Calls Tryz.prog 63 #[fv s A n c t B m d, fv u C i k v D j l] w (FracPost (x + y) w) := by
 have HA := qh h
 have HB := qh h'
 have L1 := qh (hs.limN (by omega))
 have L2 := qh (hs.limD (by omega))
 have L3 := qh (hs'.limN (by omega))
 have L4 := qh (hs'.limD (by omega))
 have L5 := qh (lim_of (hs.mulND hs') (by omega))
 have L6 := qh (lim_of (hs.mulDN hs') (by omega))
 have L7 := qh (lim_of (hs.mulD hs') (by omega))
 have L8 := qh (lim_of (hs.addN hs') hpq)
 have HE := qh (Rq.add_eq x y).symm
 have HN := qh (dens_ne x y)
 have HX := qh (show decide (x.den = 1) = false by simp [hx])
 obtain ⟨z, hz⟩ : ∃ z, x + y = z := ⟨_, rfl⟩
 rw [hz] at HE ⊢
 clear h h' hs hs' hpq hx hz
 go_enter Tryz.func63, Tryz.ntmps63
 go_wp2_with (go_at_call 106; ((with_reducible refine (isWhole_fact HX.out (HA.out.below (bq (by with_reducible repeat' first | assumption | constructor | go_size)))).mono ?_); rintro e1 w1 ⟨rfl, hb1⟩); obtain ⟨hc1, hf1⟩ := bcell hb1; (try simp only [dw] at hc1 hf1); have hz1_0 : w.heap.size < w1.heap.size := szl hb1 (by go_size); have hz1_1 : w.heap.size + 1 < w1.heap.size := szl hb1 (by go_size); have hz1_2 : w.heap.size + 1 + 1 < w1.heap.size := szl hb1 (by go_size))
 refine wp_region_T (fun w' => Below w1.heap.size w1 w') [17] (by kernel_rfl) ?_
 refine tb 0 (.pointer (some ⟨w.heap.size, 0, none⟩)) [1] rfl (by kernel_rfl) (fun _ _ _ h => h) (by rfl) (by intros; go_simp) bq0 ?_
 simp only [ppq]
 refine tb 1 (.agg #[.int .i64 s, .slice A n c]) [4] rfl (by kernel_rfl) (fun _ _ _ h => h) (by rfl) (by intros; go_simp) bq0 ?_
 simp only [ppq]
 refine tb 2 (.pointer (some ⟨w.heap.size + 1, 2, none⟩)) [3] rfl (by kernel_rfl) (fun _ _ _ h => h) (by rfl) (by intros; go_simp) bq0 ?_
 simp only [ppq]
 refine tb 3 (.agg #[.int .i64 v, .slice D j l]) [4] rfl (by kernel_rfl) (fun _ _ _ h => h) (by rfl) (by intros; go_simp) bq0 ?_
 simp only [ppq]
 refine tb 5 (.pointer (some ⟨w.heap.size + 1, 0, none⟩)) [6] rfl (by kernel_rfl) (fun _ _ _ h => h) (by rfl) (by intros; go_simp) bq0 ?_
 simp only [ppq]
 refine tb 6 (.agg #[.int .i64 u, .slice C i k]) [9] rfl (by kernel_rfl) (fun _ _ _ h => h) (by rfl) (by intros; go_simp) bq0 ?_
 simp only [ppq]
 refine tb 7 (.pointer (some ⟨w.heap.size, 2, none⟩)) [8] rfl (by kernel_rfl) (fun _ _ _ h => h) (by rfl) (by intros; go_simp) bq0 ?_
 simp only [ppq]
 refine tb 8 (.agg #[.int .i64 t, .slice B m d]) [9] rfl (by kernel_rfl) (fun _ _ _ h => h) (by rfl) (by intros; go_simp) bq0 ?_
 simp only [ppq]
 refine tb 11 (.pointer (some ⟨w.heap.size, 2, none⟩)) [12] rfl (by kernel_rfl) (fun _ _ _ h => h) (by rfl) (by intros; go_simp) bq0 ?_
 simp only [ppq]
 refine tb 12 (.agg #[.int .i64 t, .slice B m d]) [15] rfl (by kernel_rfl) (fun _ _ _ h => h) (by rfl) (by intros; go_simp) bq0 ?_
 simp only [ppq]
 refine tb 13 (.pointer (some ⟨w.heap.size + 1, 2, none⟩)) [14] rfl (by kernel_rfl) (fun _ _ _ h => h) (by rfl) (by intros; go_simp) bq0 ?_
 simp only [ppq]
 refine tb 14 (.agg #[.int .i64 v, .slice D j l]) [15] rfl (by kernel_rfl) (fun _ _ _ h => h) (by rfl) (by intros; go_simp) bq0 ?_
 simp only [ppq]
 refine rd1 4 (by kernel_rfl) rfl (fun K hK => ?_)
 go_simp
 go_wp2_with (go_at_call 78; ((with_reducible refine (mul_num (HA.out.num.below (bq (by with_reducible repeat' first | assumption | constructor | go_size))) (HB.out.den.below (bq (by with_reducible repeat' first | assumption | constructor | go_size))) L1.out L4.out).mono ?_); rintro e3 w3 ⟨s3, A3, n3, c3, rfl, hr3, hb3⟩); obtain ⟨hc3, hf3⟩ := bcell hb3; (try simp only [dw] at hc3 hf3); have hz3_0 : w.heap.size < w3.heap.size := szl hb3 (by go_size); have hz3_1 : w.heap.size + 1 < w3.heap.size := szl hb3 (by go_size); have hz3_2 : w.heap.size + 1 + 1 < w3.heap.size := szl hb3 (by go_size))
 have sS3 := qh (bst bq0 hb3)
 refine hK.out _ _ (fun _ => sS3.out) ?_
 clear hK K
 refine rd1 9 (by kernel_rfl) rfl (fun K hK => ?_)
 go_simp
 go_wp2_with (go_at_call 78; ((with_reducible refine (mul_num (HB.out.num.below (bq (by with_reducible repeat' first | assumption | constructor | go_size))) (HA.out.den.below (bq (by with_reducible repeat' first | assumption | constructor | go_size))) L3.out L2.out).mono ?_); rintro e4 w4 ⟨s4, A4, n4, c4, rfl, hr4, hb4⟩); obtain ⟨hc4, hf4⟩ := bcell hb4; (try simp only [dw] at hc4 hf4); have hz4_0 : w.heap.size < w4.heap.size := szl hb4 (by go_size); have hz4_1 : w.heap.size + 1 < w4.heap.size := szl hb4 (by go_size); have hz4_2 : w.heap.size + 1 + 1 < w4.heap.size := szl hb4 (by go_size))
 have sS4 := qh (bst sS3.out hb4)
 refine hK.out _ _ (fun _ => sS4.out) ?_
 clear hK K
 refine rd1 10 (by kernel_rfl) rfl (fun K hK => ?_)
 go_simp
 go_wp2_with (go_at_call 103; ((with_reducible refine (add_num (by with_reducible repeat first | assumption | apply rD | apply rN | apply rA | refine rP ?_ rfl (by simp [go_sem, hc4]) | refine rB ?_ ‹_›) (by with_reducible repeat first | assumption | apply rD | apply rN | apply rA | refine rP ?_ rfl (by simp [go_sem, hc4]) | refine rB ?_ ‹_›) L5.out L6.out).mono ?_); rintro e5 w5 ⟨s5, A5, n5, c5, rfl, hr5, hb5⟩); obtain ⟨hc5, hf5⟩ := bcell hb5; (try simp only [dw] at hc5 hf5); have hz5_0 : w.heap.size < w5.heap.size := szl hb5 (by go_size); have hz5_1 : w.heap.size + 1 < w5.heap.size := szl hb5 (by go_size); have hz5_2 : w.heap.size + 1 + 1 < w5.heap.size := szl hb5 (by go_size))
 have sS5 := qh (bst sS4.out hb5)
 refine hK.out _ _ (fun _ => sS5.out) ?_
 clear hK K
 refine rd1 15 (by kernel_rfl) rfl (fun K hK => ?_)
 go_simp
 go_wp2_with (go_at_call 78; ((with_reducible refine (mul_num (HA.out.den.below (bq (by with_reducible repeat' first | assumption | constructor | go_size))) (HB.out.den.below (bq (by with_reducible repeat' first | assumption | constructor | go_size))) L2.out L4.out).mono ?_); rintro e6 w6 ⟨s6, A6, n6, c6, rfl, hr6, hb6⟩); obtain ⟨hc6, hf6⟩ := bcell hb6; (try simp only [dw] at hc6 hf6); have hz6_0 : w.heap.size < w6.heap.size := szl hb6 (by go_size); have hz6_1 : w.heap.size + 1 < w6.heap.size := szl hb6 (by go_size); have hz6_2 : w.heap.size + 1 + 1 < w6.heap.size := szl hb6 (by go_size))
 have sS6 := qh (bst sS5.out hb6)
 refine hK.out _ _ (fun _ => sS6.out) ?_
 clear hK K
 refine rd1 16 (by kernel_rfl) rfl (fun K hK => ?_)
 go_simp
 go_wp2_with (go_at_call 46; ((with_reducible refine (make_fact HE.out (by with_reducible repeat first | assumption | apply rD | apply rN | apply rA | refine rP ?_ rfl (by simp [go_sem, hc6]) | refine rB ?_ ‹_›) (by with_reducible repeat first | assumption | apply rD | apply rN | apply rA | refine rP ?_ rfl (by simp [go_sem, hc6]) | refine rB ?_ ‹_›) L8.out L7.out HN.out).mono ?_); rintro e7 w7 ⟨s7, A7, n7, c7, t7, B7, m7, d7, rfl, ⟨hr7, hq7⟩, hb7⟩); obtain ⟨hc7, hf7⟩ := bcell hb7; (try simp only [dw] at hc7 hf7); have hz7_0 : w.heap.size < w7.heap.size := szl hb7 (by go_size); have hz7_1 : w.heap.size + 1 < w7.heap.size := szl hb7 (by go_size); have hz7_2 : w.heap.size + 1 + 1 < w7.heap.size := szl hb7 (by go_size))
 have sS7 := qh (bst sS6.out hb7)
 refine hK.out _ _ (fun _ => sS7.out) ?_
 clear hK K
 refine rd1 17 (by kernel_rfl) rfl (fun K hK => ?_)
 go_simp
 refine hK.out _ _ (fun h => (h (by decide)).elim) ?_
 clear hK K
 refine wpAnyT_done (by kernel_rfl) ?_ _
 go_wp2
 exact bodyPost_ret (v := .agg #[.int .i64 (s7), .slice (A7) (n7) (c7), .int .i64 (t7), .slice (B7) (m7) (d7)]) (by simp [results, Tryz.results63, go_sem, hc7, hz6_2, hc6, hz5_2, hc5, hz4_2, hc4, hz3_2, hc3, hz1_2, hc1]) rfl (frac_ret rfl ⟨(by with_reducible repeat first | assumption | apply rD | apply rN | apply rA | refine rP ?_ rfl (by simp [go_sem, hc7, hz6_2, hc6, hz5_2, hc5, hz4_2, hc4, hz3_2, hc3, hz1_2, hc1]) | refine rB ?_ ‹_›), (by with_reducible repeat first | assumption | apply rD | apply rN | apply rA | refine rP ?_ rfl (by simp [go_sem, hc7, hz6_2, hc6, hz5_2, hc5, hz4_2, hc4, hz3_2, hc3, hz1_2, hc1]) | refine rB ?_ ‹_›)⟩ (bq (by with_reducible repeat' first | assumption | constructor | go_size)))
theorem fadd_right (h : RepF w s A n c t B m d x) (h' : RepF w u C i k v D j l y) (hs : Sz p x) (hs' : Sz q y) (hpq : p + q + 1 < 100000) (hx : x.den = 1) (hy : y.den ≠ 1) :
  Calls Tryz.prog 63 #[fv s A n c t B m d, fv u C i k v D j l] w (FracPost (x + y) w) := by
 have HA := qh h
 have HB := qh h'
 have L1 := qh (hs.limN (by omega))
 have L2 := qh (hs.limD (by omega))
 have L3 := qh (hs'.limN (by omega))
 have L4 := qh (hs'.limD (by omega))
 have L5 := qh (lim_of (hs.mulND hs') (by omega))
 have L6 := qh (lim_of (hs.mulDN hs') (by omega))
 have L7 := qh (lim_of (hs.mulD hs') (by omega))
 have L8 := qh (lim_of (hs.addN hs') hpq)
 have HE := qh (Rq.add_eq x y).symm
 have HN := qh (dens_ne x y)
 have HX := qh (show decide (x.den = 1) = true by simp [hx])
 have HY := qh (show decide (y.den = 1) = false by simp [hy])
 obtain ⟨z, hz⟩ : ∃ z, x + y = z := ⟨_, rfl⟩
 rw [hz] at HE ⊢
 clear h h' hs hs' hpq hx hy hz
 go_enter Tryz.func63, Tryz.ntmps63
 go_wp2_with (first
  | (go_at_call 106; (with_reducible show Calls _ _ #[fv s A n c t B m d] _ _); ((with_reducible refine (isWhole_fact HX.out (HA.out.below (bq (by with_reducible repeat' first | assumption | constructor | go_size)))).mono ?_); rintro e1 w1 ⟨rfl, hb1⟩); obtain ⟨hc1, hf1⟩ := bcell hb1; (try simp only [dw] at hc1 hf1); have hz1_0 : w.heap.size < w1.heap.size := szl hb1 (by go_size); have hz1_1 : w.heap.size + 1 < w1.heap.size := szl hb1 (by go_size); have hz1_2 : w.heap.size + 1 + 1 < w1.heap.size := szl hb1 (by go_size))
  | (go_at_call 106; (with_reducible show Calls _ _ #[fv u C i k v D j l] _ _); ((with_reducible refine (isWhole_fact HY.out (HB.out.below (bq (by with_reducible repeat' first | assumption | constructor | go_size)))).mono ?_); rintro e2 w2 ⟨rfl, hb2⟩); obtain ⟨hc2, hf2⟩ := bcell hb2; (try simp only [dw] at hc2 hf2); have hz2_0 : w.heap.size < w2.heap.size := szl hb2 (by go_size); have hz2_1 : w.heap.size + 1 < w2.heap.size := szl hb2 (by go_size); have hz2_2 : w.heap.size + 1 + 1 < w2.heap.size := szl hb2 (by go_size)))
 refine wp_region_T (fun w' => Below w2.heap.size w2 w') [17] (by kernel_rfl) ?_
 refine tb 0 (.pointer (some ⟨w.heap.size, 0, none⟩)) [1] rfl (by kernel_rfl) (fun _ _ _ h => h) (by rfl) (by intros; go_simp) bq0 ?_
 simp only [ppq]
 refine tb 1 (.agg #[.int .i64 s, .slice A n c]) [4] rfl (by kernel_rfl) (fun _ _ _ h => h) (by rfl) (by intros; go_simp) bq0 ?_
 simp only [ppq]
 refine tb 2 (.pointer (some ⟨w.heap.size + 1, 2, none⟩)) [3] rfl (by kernel_rfl) (fun _ _ _ h => h) (by rfl) (by intros; go_simp) bq0 ?_
 simp only [ppq]
 refine tb 3 (.agg #[.int .i64 v, .slice D j l]) [4] rfl (by kernel_rfl) (fun _ _ _ h => h) (by rfl) (by intros; go_simp) bq0 ?_
 simp only [ppq]
 refine tb 5 (.pointer (some ⟨w.heap.size + 1, 0, none⟩)) [6] rfl (by kernel_rfl) (fun _ _ _ h => h) (by rfl) (by intros; go_simp) bq0 ?_
 simp only [ppq]
 refine tb 6 (.agg #[.int .i64 u, .slice C i k]) [9] rfl (by kernel_rfl) (fun _ _ _ h => h) (by rfl) (by intros; go_simp) bq0 ?_
 simp only [ppq]
 refine tb 7 (.pointer (some ⟨w.heap.size, 2, none⟩)) [8] rfl (by kernel_rfl) (fun _ _ _ h => h) (by rfl) (by intros; go_simp) bq0 ?_
 simp only [ppq]
 refine tb 8 (.agg #[.int .i64 t, .slice B m d]) [9] rfl (by kernel_rfl) (fun _ _ _ h => h) (by rfl) (by intros; go_simp) bq0 ?_
 simp only [ppq]
 refine tb 11 (.pointer (some ⟨w.heap.size, 2, none⟩)) [12] rfl (by kernel_rfl) (fun _ _ _ h => h) (by rfl) (by intros; go_simp) bq0 ?_
 simp only [ppq]
 refine tb 12 (.agg #[.int .i64 t, .slice B m d]) [15] rfl (by kernel_rfl) (fun _ _ _ h => h) (by rfl) (by intros; go_simp) bq0 ?_
 simp only [ppq]
 refine tb 13 (.pointer (some ⟨w.heap.size + 1, 2, none⟩)) [14] rfl (by kernel_rfl) (fun _ _ _ h => h) (by rfl) (by intros; go_simp) bq0 ?_
 simp only [ppq]
 refine tb 14 (.agg #[.int .i64 v, .slice D j l]) [15] rfl (by kernel_rfl) (fun _ _ _ h => h) (by rfl) (by intros; go_simp) bq0 ?_
 simp only [ppq]
 refine rd1 4 (by kernel_rfl) rfl (fun K hK => ?_)
 go_simp
 go_wp2_with (go_at_call 78; ((with_reducible refine (mul_num (HA.out.num.below (bq (by with_reducible repeat' first | assumption | constructor | go_size))) (HB.out.den.below (bq (by with_reducible repeat' first | assumption | constructor | go_size))) L1.out L4.out).mono ?_); rintro e3 w3 ⟨s3, A3, n3, c3, rfl, hr3, hb3⟩); obtain ⟨hc3, hf3⟩ := bcell hb3; (try simp only [dw] at hc3 hf3); have hz3_0 : w.heap.size < w3.heap.size := szl hb3 (by go_size); have hz3_1 : w.heap.size + 1 < w3.heap.size := szl hb3 (by go_size); have hz3_2 : w.heap.size + 1 + 1 < w3.heap.size := szl hb3 (by go_size))
 have sS3 := qh (bst bq0 hb3)
 refine hK.out _ _ (fun _ => sS3.out) ?_
 clear hK K
 refine rd1 9 (by kernel_rfl) rfl (fun K hK => ?_)
 go_simp
 go_wp2_with (go_at_call 78; ((with_reducible refine (mul_num (HB.out.num.below (bq (by with_reducible repeat' first | assumption | constructor | go_size))) (HA.out.den.below (bq (by with_reducible repeat' first | assumption | constructor | go_size))) L3.out L2.out).mono ?_); rintro e4 w4 ⟨s4, A4, n4, c4, rfl, hr4, hb4⟩); obtain ⟨hc4, hf4⟩ := bcell hb4; (try simp only [dw] at hc4 hf4); have hz4_0 : w.heap.size < w4.heap.size := szl hb4 (by go_size); have hz4_1 : w.heap.size + 1 < w4.heap.size := szl hb4 (by go_size); have hz4_2 : w.heap.size + 1 + 1 < w4.heap.size := szl hb4 (by go_size))
 have sS4 := qh (bst sS3.out hb4)
 refine hK.out _ _ (fun _ => sS4.out) ?_
 clear hK K
 refine rd1 10 (by kernel_rfl) rfl (fun K hK => ?_)
 go_simp
 go_wp2_with (go_at_call 103; ((with_reducible refine (add_num (by with_reducible repeat first | assumption | apply rD | apply rN | apply rA | refine rP ?_ rfl (by simp [go_sem, hc4]) | refine rB ?_ ‹_›) (by with_reducible repeat first | assumption | apply rD | apply rN | apply rA | refine rP ?_ rfl (by simp [go_sem, hc4]) | refine rB ?_ ‹_›) L5.out L6.out).mono ?_); rintro e5 w5 ⟨s5, A5, n5, c5, rfl, hr5, hb5⟩); obtain ⟨hc5, hf5⟩ := bcell hb5; (try simp only [dw] at hc5 hf5); have hz5_0 : w.heap.size < w5.heap.size := szl hb5 (by go_size); have hz5_1 : w.heap.size + 1 < w5.heap.size := szl hb5 (by go_size); have hz5_2 : w.heap.size + 1 + 1 < w5.heap.size := szl hb5 (by go_size))
 have sS5 := qh (bst sS4.out hb5)
 refine hK.out _ _ (fun _ => sS5.out) ?_
 clear hK K
 refine rd1 15 (by kernel_rfl) rfl (fun K hK => ?_)
 go_simp
 go_wp2_with (go_at_call 78; ((with_reducible refine (mul_num (HA.out.den.below (bq (by with_reducible repeat' first | assumption | constructor | go_size))) (HB.out.den.below (bq (by with_reducible repeat' first | assumption | constructor | go_size))) L2.out L4.out).mono ?_); rintro e6 w6 ⟨s6, A6, n6, c6, rfl, hr6, hb6⟩); obtain ⟨hc6, hf6⟩ := bcell hb6; (try simp only [dw] at hc6 hf6); have hz6_0 : w.heap.size < w6.heap.size := szl hb6 (by go_size); have hz6_1 : w.heap.size + 1 < w6.heap.size := szl hb6 (by go_size); have hz6_2 : w.heap.size + 1 + 1 < w6.heap.size := szl hb6 (by go_size))
 have sS6 := qh (bst sS5.out hb6)
 refine hK.out _ _ (fun _ => sS6.out) ?_
 clear hK K
 refine rd1 16 (by kernel_rfl) rfl (fun K hK => ?_)
 go_simp
 go_wp2_with (go_at_call 46; ((with_reducible refine (make_fact HE.out (by with_reducible repeat first | assumption | apply rD | apply rN | apply rA | refine rP ?_ rfl (by simp [go_sem, hc6]) | refine rB ?_ ‹_›) (by with_reducible repeat first | assumption | apply rD | apply rN | apply rA | refine rP ?_ rfl (by simp [go_sem, hc6]) | refine rB ?_ ‹_›) L8.out L7.out HN.out).mono ?_); rintro e7 w7 ⟨s7, A7, n7, c7, t7, B7, m7, d7, rfl, ⟨hr7, hq7⟩, hb7⟩); obtain ⟨hc7, hf7⟩ := bcell hb7; (try simp only [dw] at hc7 hf7); have hz7_0 : w.heap.size < w7.heap.size := szl hb7 (by go_size); have hz7_1 : w.heap.size + 1 < w7.heap.size := szl hb7 (by go_size); have hz7_2 : w.heap.size + 1 + 1 < w7.heap.size := szl hb7 (by go_size))
 have sS7 := qh (bst sS6.out hb7)
 refine hK.out _ _ (fun _ => sS7.out) ?_
 clear hK K
 refine rd1 17 (by kernel_rfl) rfl (fun K hK => ?_)
 go_simp
 refine hK.out _ _ (fun h => (h (by decide)).elim) ?_
 clear hK K
 refine wpAnyT_done (by kernel_rfl) ?_ _
 go_wp2
 exact bodyPost_ret (v := .agg #[.int .i64 (s7), .slice (A7) (n7) (c7), .int .i64 (t7), .slice (B7) (m7) (d7)]) (by simp [results, Tryz.results63, go_sem, hc2, hz2_2, hc7, hz6_2, hc6, hz5_2, hc5, hz4_2, hc4, hz3_2, hc3, hz1_2, hc1]) rfl (frac_ret rfl ⟨(by with_reducible repeat first | assumption | apply rD | apply rN | apply rA | refine rP ?_ rfl (by simp [go_sem, hc2, hz2_2, hc7, hz6_2, hc6, hz5_2, hc5, hz4_2, hc4, hz3_2, hc3, hz1_2, hc1]) | refine rB ?_ ‹_›), (by with_reducible repeat first | assumption | apply rD | apply rN | apply rA | refine rP ?_ rfl (by simp [go_sem, hc2, hz2_2, hc7, hz6_2, hc6, hz5_2, hc5, hz4_2, hc4, hz3_2, hc3, hz1_2, hc1]) | refine rB ?_ ‹_›)⟩ (bq (by with_reducible repeat' first | assumption | constructor | go_size)))
theorem fadd_num (h : RepF w s A n c t B m d x) (h' : RepF w u C i k v D j l y) (hs : Sz p x) (hs' : Sz q y) (hpq : p + q + 1 < 100000) :
  Calls Tryz.prog 63 #[fv s A n c t B m d, fv u C i k v D j l] w (FracPost (x + y) w) := by
 by_cases hx : x.den = 1
 ·by_cases hy : y.den = 1
  ·exact fadd_whole h h' hs hs' hpq hx hy
  ·exact fadd_right h h' hs hs' hpq hx hy
 ·exact fadd_parts h h' hs hs' hpq hx
end
end Go.Proofs.YtoccfcpggomlaaaGreatDoor
