/- Plain facts on a step of long division with many digits: the digit guessed from the first two digits of the divisor is right or one too great. -/
set_option linter.unusedSimpArgs false
set_option linter.unusedVariables false
set_option maxRecDepth 100000
set_option maxHeartbeats 8000000
namespace Go.Proofs.YtoccfcpggomlaaaGreatDoor.QStep
section
variable {b m V V' W v1 v2 U U' T t u2 q r : Nat}
variable (hV : V = W * m + V') (hV' : V' < m) (hW : W = v1 * b + v2) (hU : U = T * m + U') (hU' : U' < m) (hT : T = t * b + u2)

include hV hU hU' in
theorem div_le (hm : 0 < W) : U / V ≤ T / W := by
 rw [Nat.le_div_iff_mul_le hm]
 have h1 : U / V * V ≤ U := Nat.div_mul_le_self _ _
 have h2 : U / V * (W * m) ≤ U := Nat.le_trans (Nat.mul_le_mul_left _ (by omega)) h1
 rw [← Nat.mul_assoc] at h2
 have h3 : U / V * W * m < (T + 1) * m := by rw [Nat.add_mul, Nat.one_mul]; omega
 have := Nat.lt_of_mul_lt_mul_right h3
 omega

include hW hT in
theorem guess_ge (h1 : 0 < v1) (hu2 : u2 < b) : T / W ≤ t / v1 := by
 rw [Nat.le_div_iff_mul_le h1]
 have h2 : T / W * W ≤ T := Nat.div_mul_le_self _ _
 have h3 : T / W * (v1 * b) ≤ T := Nat.le_trans (Nat.mul_le_mul_left _ (by omega)) h2
 rw [← Nat.mul_assoc] at h3
 have h4 : T / W * v1 * b < (t + 1) * b := by rw [Nat.add_mul, Nat.one_mul]; omega
 have := Nat.lt_of_mul_lt_mul_right h4
 omega

include hW hT in
theorem qW (hqr : q * v1 + r = t) : q * W + r * b + u2 = T + q * v2 := by
 subst hqr
 rw [hW, hT, Nat.mul_add, Nat.add_mul, ← Nat.mul_assoc]; omega

/-- Where the test says stop, the guess is at most one too great. -/
theorem exit_le (hV : V = W * m + V') (hV' : V' < m) (hW : W = v1 * b + v2) (hU : U = T * m + U') (hT : T = t * b + u2) (h1 : 0 < v1) (hb : 0 < b) (hqr : q * v1 + r = t) (hq : q ≤ b)
  (h : q * v2 ≤ r * b + u2) : q * V < U + V := by
 have h2 := qW hW hT hqr
 have h3 : q * W ≤ T := by omega
 have h4 : q * W * m ≤ T * m := Nat.mul_le_mul_right _ h3
 have h5 : q * V' ≤ b * V' := Nat.mul_le_mul_right _ hq
 have h6 : b * V' ≤ b * m := Nat.mul_le_mul_left _ (by omega)
 have h7 : b * m ≤ v1 * b * m := by
  rw [Nat.mul_assoc]; exact Nat.le_mul_of_pos_left _ h1
 have h8 : v1 * b * m ≤ W * m := Nat.mul_le_mul_right _ (by omega)
 have h9 : q * V = q * W * m + q * V' := by rw [hV, Nat.mul_add, Nat.mul_assoc]
 have h10 : b * V' < b * m := Nat.mul_lt_mul_of_pos_left hV' hb
 omega

theorem stop_big (hq : q ≤ b) (hv : v2 < b) (hr : b ≤ r) : q * v2 ≤ r * b + u2 := by
 have h1 : q * v2 ≤ b * v2 := Nat.mul_le_mul_right _ hq
 have h2 : b * v2 ≤ b * b := Nat.mul_le_mul_left _ (by omega)
 have h3 : b * b ≤ r * b := Nat.mul_le_mul_right _ hr
 omega

theorem go_on (hV : V = W * m + V') (hW : W = v1 * b + v2) (hU : U = T * m + U') (hU' : U' < m) (hT : T = t * b + u2) (h1 : 0 < W) (hqr : q * v1 + r = t)
  (h : r * b + u2 < q * v2) : U / V ≤ q - 1 ∧ 1 ≤ q ∧ (q - 1) * v1 + (r + v1) = t := by
 have h2 := qW hW hT hqr
 have h3 : T < q * W := by omega
 have h4 : T / W < q := (Nat.div_lt_iff_lt_mul h1).2 h3
 have h5 := div_le hV hU hU' h1
 have h6 : 0 < q := Nat.lt_of_le_of_lt (Nat.zero_le _) h4
 have h7 : U / V < q := Nat.lt_of_le_of_lt h5 h4
 clear h4 h5
 generalize U / V = x at *
 refine ⟨by omega, by omega, ?_⟩
 obtain ⟨k, rfl⟩ : ∃ k, q = k + 1 := ⟨q - 1, by omega⟩
 rw [Nat.add_mul, Nat.one_mul] at hqr
 simp only [Nat.add_sub_cancel]; omega
end
end Go.Proofs.YtoccfcpggomlaaaGreatDoor.QStep
