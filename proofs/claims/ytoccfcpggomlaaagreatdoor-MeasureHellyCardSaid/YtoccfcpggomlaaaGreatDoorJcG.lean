/- The contracts of the hull of some spans and of what they have in common. -/
import Derived.Test.YtoccfcpggomlaaaGreatDoorMw
set_option linter.unusedSimpArgs false
set_option linter.unusedVariables false
set_option maxRecDepth 100000
set_option maxHeartbeats 8000000
namespace Go.Proofs.YtoccfcpggomlaaaGreatDoor
open Go Go.RowKit

theorem mem_getD {l : List Rat} {q : Rat} (h : q ∈ l) : ∃ j, j < l.length ∧ l.getD j 0 = q := by
 obtain ⟨j, hj, e⟩ := List.mem_iff_getElem.1 h
 exact ⟨j, hj, by rw [List.getD_eq_getElem?_getD, List.getElem?_eq_getElem hj]; exact e⟩
theorem SpIn.szl {w : World} {A : Option Addr} {n : Nat} {ls : List (List UInt8 × List UInt8)} {los his : List Rat} (h : SpIn w A n ls los his) : ∀ q ∈ los, Sz 1 q := fun q hq => by
 obtain ⟨j, hj, rfl⟩ := mem_getD hq
 exact (h.num j (by rw [← h.lo]; exact hj)).2.2.1.sz
theorem SpIn.szh {w : World} {A : Option Addr} {n : Nat} {ls : List (List UInt8 × List UInt8)} {los his : List Rat} (h : SpIn w A n ls los his) : ∀ q ∈ his, Sz 1 q := fun q hq => by
 obtain ⟨j, hj, rfl⟩ := mem_getD hq
 exact (h.num j (by rw [← h.hi]; exact hj)).2.2.2.sz
section
variable {w : World} {A : Option Addr} {n c : Nat} {ls : List (List UInt8 × List UInt8)} {los his : List Rat}
theorem hull_ok {lo hi : Rat} {tl th : List UInt8} {ke : Int} (hE : Env w) (h : SpIn w A n ls los his) (hlo : minF (los.getD 0 0) (los.drop 1) = lo) (hhi : maxF (his.getD 0 0) (his.drop 1) = hi) (hS : StrQ lo) (hS' : StrQ hi) (htl : gspL lo hi = tl) (hth : gspH lo hi = th) (hke : gspE lo hi = ke) :
  Calls Tryz.prog 15 #[.slice A n c] w fun e w' => e = .returned (.tuple #[sp tl th, .int .i64 ke]) ∧ Below w.heap.size w w' := by
 have HE := qh hE
 have HS := qh h
 have HN := qh (And.intro h.pos (show n ≤ 100000 by have := h.le; omega))
 have HQL := qh h.szl
 have HQH := qh h.szh
 have HLO := qh hlo
 have HHI := qh hhi
 have HSL := qh hS
 have HSH := qh hS'
 have HTL := qh htl
 have HTH := qh hth
 have HKE := qh hke
 clear hE h hlo hhi hS hS' htl hth hke
 go_enter Tryz.func15, Tryz.ntmps15
 go_upto_region 4 with (go_at_call 33; ((with_reducible refine (spans_in (HE.out.below (bq (by with_reducible repeat' first | assumption | constructor | go_size))) (HS.out.below (bq (by with_reducible repeat' first | assumption | constructor | go_size)))).mono ?_); rintro e1 w1 ⟨A11, c11, A21, c21, rfl, hv1, hv2, hb1⟩); obtain ⟨hc1, hf1⟩ := bcell hb1; (try simp only [dw] at hc1 hf1); have hz1_0 : w.heap.size < w1.heap.size := szl hb1 (by go_size))
 have HV1 := qh hv1
 have HV2 := qh hv2
 clear hv1 hv2
 go_wp2_with (first
  | (go_at_call 35; ((with_reducible refine (minQ_num (HV1.out.below (bq (by with_reducible repeat' first | assumption | constructor | go_size))) HN.out.1 HN.out.2 HQL.out (by omega) HLO.out).mono ?_); rintro e2 w2 ⟨s2, A2, n2, c2, t2, B2, m2, d2, rfl, ⟨hr2, hq2⟩, hb2⟩); obtain ⟨hc2, hf2⟩ := bcell hb2; (try simp only [dw] at hc2 hf2); have hz2_0 : w.heap.size < w2.heap.size := szl hb2 (by go_size))
  | (go_at_call 34; ((with_reducible refine (maxQ_num (HV2.out.below (bq (by with_reducible repeat' first | assumption | constructor | go_size))) HN.out.1 HN.out.2 HQH.out (by omega) HHI.out).mono ?_); rintro e3 w3 ⟨s3, A3, n3, c3, t3, B3, m3, d3, rfl, ⟨hr3, hq3⟩, hb3⟩); obtain ⟨hc3, hf3⟩ := bcell hb3; (try simp only [dw] at hc3 hf3); have hz3_0 : w.heap.size < w3.heap.size := szl hb3 (by go_size))
  | (go_at_call 37; ((with_reducible refine (gspan_fact HTL.out HTH.out HKE.out (HE.out.below (bq (by with_reducible repeat' first | assumption | constructor | go_size))) ⟨(by with_reducible repeat first | assumption | apply rD | apply rN | apply rA | refine rP ?_ rfl (by simp [go_sem, hc3]) | refine rB ?_ ‹_›), (by with_reducible repeat first | assumption | apply rD | apply rN | apply rA | refine rP ?_ rfl (by simp [go_sem, hc3]) | refine rB ?_ ‹_›)⟩ ⟨hr3, hq3⟩ HSL.out HSH.out).mono ?_); rintro e4 w4 ⟨rfl, hb4⟩); obtain ⟨hc4, hf4⟩ := bcell hb4; (try simp only [dw] at hc4 hf4); have hz4_0 : w.heap.size < w4.heap.size := szl hb4 (by go_size)))
 exact bodyPost_ret (v := .tuple #[sp tl th, .int .i64 ke]) (by simp [results, Tryz.results15, go_sem, hc1, hc2, hc3, hc4, hf1, hf2, hf3, hf4, hz1_0, hz2_0, hz3_0, hz4_0]) rfl ⟨rfl, (bq (by with_reducible repeat' first | assumption | constructor | go_size))⟩
theorem meet_none {lo hi : Rat} (hE : Env w) (h : SpIn w A n ls los his) (hlo : maxF (los.getD 0 0) (los.drop 1) = lo) (hhi : minF (his.getD 0 0) (his.drop 1) = hi) (hz1 : Sz 1 lo) (hz2 : Sz 1 hi) (hlt : hi < lo) :
  Calls Tryz.prog 13 #[.slice A n c] w fun e w' => e = .returned (.tuple #[sp [] [], .int .i64 15]) ∧ Below w.heap.size w w' := by
 have HE := qh hE
 have HS := qh h
 have HN := qh (And.intro h.pos (show n ≤ 100000 by have := h.le; omega))
 have HQL := qh h.szl
 have HQH := qh h.szh
 have HLO := qh hlo
 have HHI := qh hhi
 have HZ1 : Hid (Sz 1 lo) := qh hz1
 have HZ2 : Hid (Sz 1 hi) := qh hz2
 obtain ⟨g, hg⟩ : ∃ g, Rq.cmpQ lo hi = g := ⟨_, rfl⟩
 have HG := qh hg
 have q1 : decide (0 < g) = true := by rw [decide_eq_true_iff, ← hg, Rq.cmp_pos]; exact hlt
 clear hE h hlo hhi hz1 hz2 hg hlt
 go_enter Tryz.func13, Tryz.ntmps13
 go_upto_region 4 with (go_at_call 33; ((with_reducible refine (spans_in (HE.out.below (bq (by with_reducible repeat' first | assumption | constructor | go_size))) (HS.out.below (bq (by with_reducible repeat' first | assumption | constructor | go_size)))).mono ?_); rintro e1 w1 ⟨A11, c11, A21, c21, rfl, hv1, hv2, hb1⟩); obtain ⟨hc1, hf1⟩ := bcell hb1; (try simp only [dw] at hc1 hf1); have hz1_0 : w.heap.size < w1.heap.size := szl hb1 (by go_size))
 have HV1 := qh hv1
 have HV2 := qh hv2
 clear hv1 hv2
 go_upto_region 5 with (first
  | (go_at_call 34; ((with_reducible refine (maxQ_num (HV1.out.below (bq (by with_reducible repeat' first | assumption | constructor | go_size))) HN.out.1 HN.out.2 HQL.out (by omega) HLO.out).mono ?_); rintro e2 w2 ⟨s2, A2, n2, c2, t2, B2, m2, d2, rfl, ⟨hr2, hq2⟩, hb2⟩); obtain ⟨hc2, hf2⟩ := bcell hb2; (try simp only [dw] at hc2 hf2); have hz2_0 : w.heap.size < w2.heap.size := szl hb2 (by go_size))
  | (go_at_call 35; ((with_reducible refine (minQ_num (HV2.out.below (bq (by with_reducible repeat' first | assumption | constructor | go_size))) HN.out.1 HN.out.2 HQH.out (by omega) HHI.out).mono ?_); rintro e3 w3 ⟨s3, A3, n3, c3, t3, B3, m3, d3, rfl, ⟨hr3, hq3⟩, hb3⟩); obtain ⟨hc3, hf3⟩ := bcell hb3; (try simp only [dw] at hc3 hf3); have hz3_0 : w.heap.size < w3.heap.size := szl hb3 (by go_size)))
 go_wp2_with ((go_at_call 36; ((with_reducible refine (fcmp_fact 1 1 HG.out ⟨(by with_reducible repeat first | assumption | apply rD | apply rN | apply rA | refine rP ?_ rfl (by simp [go_sem, hc3]) | refine rB ?_ ‹_›), (by with_reducible repeat first | assumption | apply rD | apply rN | apply rA | refine rP ?_ rfl (by simp [go_sem, hc3]) | refine rB ?_ ‹_›)⟩ ⟨(by with_reducible repeat first | assumption | apply rD | apply rN | apply rA | refine rP ?_ rfl (by simp [go_sem, hc3]) | refine rB ?_ ‹_›), (by with_reducible repeat first | assumption | apply rD | apply rN | apply rA | refine rP ?_ rfl (by simp [go_sem, hc3]) | refine rB ?_ ‹_›)⟩ HZ1.out HZ2.out (by omega)).mono ?_); rintro e4 w4 ⟨rfl, hb4⟩); obtain ⟨hc4, hf4⟩ := bcell hb4; (try simp only [dw] at hc4 hf4); have hz4_0 : w.heap.size < w4.heap.size := szl hb4 (by go_size)); have hy1 : w.heap.size < w3.heap.size + 1 := Nat.lt_succ_of_lt hz3_0; have hy2 : w.heap.size < w3.heap.size + 1 + 1 := Nat.lt_succ_of_lt hy1)
 exact bodyPost_ret (v := .tuple #[sp [] [], .int .i64 15]) (by simp [results, Tryz.results13, go_sem, hc1, hc2, hc3, hc4, hf1, hf2, hf3, hf4, hz1_0, hz2_0, hz3_0, hz4_0, hy1, hy2]) rfl ⟨rfl, (bq (by with_reducible repeat' first | assumption | constructor | go_size))⟩
theorem meet_ok {lo hi : Rat} {tl th : List UInt8} {ke : Int} (hE : Env w) (h : SpIn w A n ls los his) (hlo : maxF (los.getD 0 0) (los.drop 1) = lo) (hhi : minF (his.getD 0 0) (his.drop 1) = hi) (hz1 : Sz 1 lo) (hz2 : Sz 1 hi) (hle : lo ≤ hi) (hS : StrQ lo) (hS' : StrQ hi) (htl : gspL lo hi = tl) (hth : gspH lo hi = th) (hke : gspE lo hi = ke) :
  Calls Tryz.prog 13 #[.slice A n c] w fun e w' => e = .returned (.tuple #[sp tl th, .int .i64 ke]) ∧ Below w.heap.size w w' := by
 have HE := qh hE
 have HS := qh h
 have HN := qh (And.intro h.pos (show n ≤ 100000 by have := h.le; omega))
 have HQL := qh h.szl
 have HQH := qh h.szh
 have HLO := qh hlo
 have HHI := qh hhi
 have HZ1 : Hid (Sz 1 lo) := qh hz1
 have HZ2 : Hid (Sz 1 hi) := qh hz2
 obtain ⟨g, hg⟩ : ∃ g, Rq.cmpQ lo hi = g := ⟨_, rfl⟩
 have HG := qh hg
 have HSL := qh hS
 have HSH := qh hS'
 have HTL := qh htl
 have HTH := qh hth
 have HKE := qh hke
 have q1 : decide (0 < g) = false := by rw [decide_eq_false_iff_not, ← hg, Rq.cmp_pos]; exact Rat.not_lt.2 hle
 clear hE h hlo hhi hz1 hz2 hg hle hS hS' htl hth hke
 go_enter Tryz.func13, Tryz.ntmps13
 go_upto_region 4 with (go_at_call 33; ((with_reducible refine (spans_in (HE.out.below (bq (by with_reducible repeat' first | assumption | constructor | go_size))) (HS.out.below (bq (by with_reducible repeat' first | assumption | constructor | go_size)))).mono ?_); rintro e1 w1 ⟨A11, c11, A21, c21, rfl, hv1, hv2, hb1⟩); obtain ⟨hc1, hf1⟩ := bcell hb1; (try simp only [dw] at hc1 hf1); have hz1_0 : w.heap.size < w1.heap.size := szl hb1 (by go_size))
 have HV1 := qh hv1
 have HV2 := qh hv2
 clear hv1 hv2
 go_upto_region 5 with (first
  | (go_at_call 34; ((with_reducible refine (maxQ_num (HV1.out.below (bq (by with_reducible repeat' first | assumption | constructor | go_size))) HN.out.1 HN.out.2 HQL.out (by omega) HLO.out).mono ?_); rintro e2 w2 ⟨s2, A2, n2, c2, t2, B2, m2, d2, rfl, ⟨hr2, hq2⟩, hb2⟩); obtain ⟨hc2, hf2⟩ := bcell hb2; (try simp only [dw] at hc2 hf2); have hz2_0 : w.heap.size < w2.heap.size := szl hb2 (by go_size))
  | (go_at_call 35; ((with_reducible refine (minQ_num (HV2.out.below (bq (by with_reducible repeat' first | assumption | constructor | go_size))) HN.out.1 HN.out.2 HQH.out (by omega) HHI.out).mono ?_); rintro e3 w3 ⟨s3, A3, n3, c3, t3, B3, m3, d3, rfl, ⟨hr3, hq3⟩, hb3⟩); obtain ⟨hc3, hf3⟩ := bcell hb3; (try simp only [dw] at hc3 hf3); have hz3_0 : w.heap.size < w3.heap.size := szl hb3 (by go_size)))
 go_wp2_with (first
  | ((go_at_call 36; ((with_reducible refine (fcmp_fact 1 1 HG.out ⟨(by with_reducible repeat first | assumption | apply rD | apply rN | apply rA | refine rP ?_ rfl (by simp [go_sem, hc3]) | refine rB ?_ ‹_›), (by with_reducible repeat first | assumption | apply rD | apply rN | apply rA | refine rP ?_ rfl (by simp [go_sem, hc3]) | refine rB ?_ ‹_›)⟩ ⟨(by with_reducible repeat first | assumption | apply rD | apply rN | apply rA | refine rP ?_ rfl (by simp [go_sem, hc3]) | refine rB ?_ ‹_›), (by with_reducible repeat first | assumption | apply rD | apply rN | apply rA | refine rP ?_ rfl (by simp [go_sem, hc3]) | refine rB ?_ ‹_›)⟩ HZ1.out HZ2.out (by omega)).mono ?_); rintro e4 w4 ⟨rfl, hb4⟩); obtain ⟨hc4, hf4⟩ := bcell hb4; (try simp only [dw] at hc4 hf4); have hz4_0 : w.heap.size < w4.heap.size := szl hb4 (by go_size)); have hy1 : w.heap.size < w3.heap.size + 1 := Nat.lt_succ_of_lt hz3_0; have hy2 : w.heap.size < w3.heap.size + 1 + 1 := Nat.lt_succ_of_lt hy1)
  | (go_at_call 37; ((with_reducible refine (gspan_fact HTL.out HTH.out HKE.out (HE.out.below (bq (by with_reducible repeat' first | assumption | constructor | go_size))) ⟨(by with_reducible repeat first | assumption | apply rD | apply rN | apply rA | refine rP ?_ rfl (by simp [go_sem, hc3, hc4]) | refine rB ?_ ‹_›), (by with_reducible repeat first | assumption | apply rD | apply rN | apply rA | refine rP ?_ rfl (by simp [go_sem, hc3, hc4]) | refine rB ?_ ‹_›)⟩ ⟨(by with_reducible repeat first | assumption | apply rD | apply rN | apply rA | refine rP ?_ rfl (by simp [go_sem, hc3, hc4]) | refine rB ?_ ‹_›), (by with_reducible repeat first | assumption | apply rD | apply rN | apply rA | refine rP ?_ rfl (by simp [go_sem, hc3, hc4]) | refine rB ?_ ‹_›)⟩ HSL.out HSH.out).mono ?_); rintro e5 w5 ⟨rfl, hb5⟩); obtain ⟨hc5, hf5⟩ := bcell hb5; (try simp only [dw] at hc5 hf5); have hz5_0 : w.heap.size < w5.heap.size := szl hb5 (by go_size)))
 exact bodyPost_ret (v := .tuple #[sp tl th, .int .i64 ke]) (by simp [results, Tryz.results13, go_sem, hc1, hc2, hc3, hc4, hc5, hf1, hf2, hf3, hf4, hf5, hz1_0, hz2_0, hz3_0, hz4_0, hz5_0, hy1, hy2]) rfl ⟨rfl, (bq (by with_reducible repeat' first | assumption | constructor | go_size))⟩
end

theorem maxF_ge : ∀ (l : List Rat) (m : Rat), m ≤ maxF m l ∧ ∀ x ∈ l, x ≤ maxF m l
 | [], m => ⟨Rat.le_refl, by simp⟩
 | a :: r, m => by
   unfold maxF
   by_cases h : Rq.cmpQ a m > 0
   ·rw [if_pos h]
    obtain ⟨h1, h2⟩ := maxF_ge r a
    refine ⟨Rat.le_trans (Rat.le_of_lt (Rq.cmp_pos.1 h)) h1, fun x hx => ?_⟩
    rcases List.mem_cons.1 hx with rfl | hx
    ·exact h1
    ·exact h2 x hx
   ·rw [if_neg h]
    obtain ⟨h1, h2⟩ := maxF_ge r m
    refine ⟨h1, fun x hx => ?_⟩
    rcases List.mem_cons.1 hx with rfl | hx
    ·exact Rat.le_trans (Rat.not_lt.1 (fun e => h (Rq.cmp_pos.2 e))) h1
    ·exact h2 x hx
theorem minF_le : ∀ (l : List Rat) (m : Rat), minF m l ≤ m ∧ ∀ x ∈ l, minF m l ≤ x
 | [], m => ⟨Rat.le_refl, by simp⟩
 | a :: r, m => by
   unfold minF
   by_cases h : Rq.cmpQ a m < 0
   ·rw [if_pos h]
    obtain ⟨h1, h2⟩ := minF_le r a
    refine ⟨Rat.le_trans h1 (Rat.le_of_lt (Rq.cmp_neg.1 h)), fun x hx => ?_⟩
    rcases List.mem_cons.1 hx with rfl | hx
    ·exact h1
    ·exact h2 x hx
   ·rw [if_neg h]
    obtain ⟨h1, h2⟩ := minF_le r m
    refine ⟨h1, fun x hx => ?_⟩
    rcases List.mem_cons.1 hx with rfl | hx
    ·exact Rat.le_trans h1 (Rat.not_lt.1 (fun e => h (Rq.cmp_neg.2 e)))
    ·exact h2 x hx
theorem maxF_mem : ∀ (l : List Rat) (m : Rat), maxF m l ∈ m :: l
 | [], m => by simp [maxF]
 | a :: r, m => by
   unfold maxF
   split
   ·exact List.mem_cons_of_mem _ (maxF_mem r a)
   ·rcases List.mem_cons.1 (maxF_mem r m) with h | h
    ·rw [h]; exact List.mem_cons_self ..
    ·exact List.mem_cons_of_mem _ (List.mem_cons_of_mem _ h)
theorem minF_mem : ∀ (l : List Rat) (m : Rat), minF m l ∈ m :: l
 | [], m => by simp [minF]
 | a :: r, m => by
   unfold minF
   split
   ·exact List.mem_cons_of_mem _ (minF_mem r a)
   ·rcases List.mem_cons.1 (minF_mem r m) with h | h
    ·rw [h]; exact List.mem_cons_self ..
    ·exact List.mem_cons_of_mem _ (List.mem_cons_of_mem _ h)
theorem getD_in {l : List Rat} {j : Nat} (h : j < l.length) : l.getD j 0 ∈ l := by
 rw [List.getD_eq_getElem?_getD, List.getElem?_eq_getElem h]; exact List.getElem_mem h
theorem max_ge {l : List Rat} {j : Nat} (h : j < l.length) : l.getD j 0 ≤ maxF (l.getD 0 0) (l.drop 1) := by
 cases l with
 | nil => simp at h
 | cons a r =>
   rcases List.mem_cons.1 (getD_in h) with e | e
   ·rw [e]; exact (maxF_ge r a).1
   ·exact (maxF_ge r a).2 _ e
theorem min_le {l : List Rat} {j : Nat} (h : j < l.length) : minF (l.getD 0 0) (l.drop 1) ≤ l.getD j 0 := by
 cases l with
 | nil => simp at h
 | cons a r =>
   rcases List.mem_cons.1 (getD_in h) with e | e
   ·rw [e]; exact (minF_le r a).1
   ·exact (minF_le r a).2 _ e
theorem max_at {l : List Rat} (h : 0 < l.length) : ∃ j, j < l.length ∧ l.getD j 0 = maxF (l.getD 0 0) (l.drop 1) := by
 cases l with
 | nil => simp at h
 | cons a r => exact mem_getD (maxF_mem r a)
theorem min_at {l : List Rat} (h : 0 < l.length) : ∃ j, j < l.length ∧ l.getD j 0 = minF (l.getD 0 0) (l.drop 1) := by
 cases l with
 | nil => simp at h
 | cons a r => exact mem_getD (minF_mem r a)
theorem innF_some {p : Nat → Bool} : ∀ {m k j : Nat}, innF p m k = some j → k ≤ j ∧ j < k + m ∧ p j = true
 | 0, k, j, h => by cases h
 | m + 1, k, j, h => by
   unfold innF at h
   by_cases hp : p k = true
   ·rw [if_pos hp] at h; cases h; exact ⟨Nat.le_refl _, by omega, hp⟩
   ·rw [if_neg hp] at h
    obtain ⟨h1, h2, h3⟩ := innF_some h
    exact ⟨by omega, by omega, h3⟩
theorem innF_none {p : Nat → Bool} : ∀ {m k : Nat}, innF p m k = none → ∀ j, k ≤ j → j < k + m → p j = false
 | 0, k, _, j, h1, h2 => by omega
 | m + 1, k, h, j, h1, h2 => by
   unfold innF at h
   by_cases hp : p k = true
   ·rw [if_pos hp] at h; cases h
   ·rw [if_neg hp] at h
    by_cases e : j = k
    ·rw [e]; simpa using hp
    ·exact innF_none h j (by omega) (by omega)
theorem outF_some {p : Nat → Nat → Bool} {n : Nat} : ∀ {m i a b : Nat}, i + m ≤ n → outF p n m i = some (a, b) → a < b ∧ b < n ∧ p a b = true
 | 0, i, a, b, _, h => by cases h
 | m + 1, i, a, b, hn, h => by
   unfold outF at h
   cases hi : innF (p i) (n - (i + 1)) (i + 1) with
   | none => rw [hi] at h; exact outF_some (by omega) h
   | some k =>
     rw [hi] at h
     simp only [Option.some.injEq, Prod.mk.injEq] at h
     obtain ⟨rfl, rfl⟩ := h
     obtain ⟨h1, h2, h3⟩ := innF_some hi
     exact ⟨by omega, by omega, h3⟩
theorem outF_none {p : Nat → Nat → Bool} {n : Nat} : ∀ {m i : Nat}, i + m ≤ n → outF p n m i = none → ∀ a b, i ≤ a → a < i + m → a < b → b < n → p a b = false
 | 0, i, _, _, a, b, h1, h2, _, _ => by omega
 | m + 1, i, hn, h, a, b, h1, h2, h3, h4 => by
   unfold outF at h
   cases hi : innF (p i) (n - (i + 1)) (i + 1) with
   | some k => rw [hi] at h; cases h
   | none =>
     rw [hi] at h
     by_cases e : a = i
     ·rw [e]; exact innF_none hi b (by omega) (by omega)
     ·exact outF_none (by omega) h a b (by omega) (by omega) h3 h4
theorem badQ_iff {los his : List Rat} {i k : Nat} : badQ los his i k = true ↔ his.getD i 0 < los.getD k 0 ∨ his.getD k 0 < los.getD i 0 := by
 unfold badQ
 rw [Bool.or_eq_true, decide_eq_true_iff, decide_eq_true_iff, Rq.cmp_neg, Rq.cmp_neg]
section
variable {los his : List Rat} {n : Nat}
/-- A value in common: no two clash. -/
theorem helly_ok (hl : los.length = n) (hh : his.length = n) (h : maxF (los.getD 0 0) (los.drop 1) ≤ minF (his.getD 0 0) (his.drop 1)) : outF (badQ los his) n n 0 = none := by
 cases e : outF (badQ los his) n n 0 with
 | none => rfl
 | some r =>
   obtain ⟨a, b⟩ := r
   obtain ⟨h1, h2, h3⟩ := outF_some (by omega) e
   have key : ∀ i k, i < n → k < n → ¬ his.getD i 0 < los.getD k 0 := fun i k hi hk => Rat.not_lt.2 (Rat.le_trans (max_ge (by omega)) (Rat.le_trans h (min_le (by omega))))
   rcases badQ_iff.1 h3 with h4 | h4
   ·exact absurd h4 (key _ _ (by omega) h2)
   ·exact absurd h4 (key _ _ h2 (by omega))
/-- No value in common: two clash. -/
theorem helly_no (hl : los.length = n) (hh : his.length = n) (h0 : 0 < n) (hle : ∀ j, j < n → los.getD j 0 ≤ his.getD j 0) (h : minF (his.getD 0 0) (his.drop 1) < maxF (los.getD 0 0) (los.drop 1)) :
  ∃ a b, outF (badQ los his) n n 0 = some (a, b) ∧ a < b ∧ b < n ∧ (his.getD a 0 < los.getD b 0 ∨ his.getD b 0 < los.getD a 0) := by
 obtain ⟨k, hk, ek⟩ := max_at (l := los) (by omega)
 obtain ⟨i, hi, ei⟩ := min_at (l := his) (by omega)
 rw [hl] at hk
 rw [hh] at hi
 rw [← ek, ← ei] at h
 cases e : outF (badQ los his) n n 0 with
 | none =>
   have key := outF_none (by omega) e
   exfalso
   rcases Nat.lt_trichotomy i k with c | c | c
   ·have := key i k (by omega) (by omega) c hk
    rw [badQ_iff.2 (Or.inl h)] at this; cases this
   ·subst c
    exact Rat.not_lt.2 (hle i hi) h
   ·have := key k i (by omega) (by omega) c hi
    rw [badQ_iff.2 (Or.inr h)] at this; cases this
 | some r =>
   obtain ⟨a, b⟩ := r
   obtain ⟨h1, h2, h3⟩ := outF_some (by omega) e
   exact ⟨a, b, rfl, h1, h2, badQ_iff.1 h3⟩
end
end Go.Proofs.YtoccfcpggomlaaaGreatDoor
