/- Plain facts on whole parts in proportion to weights: the parts behind the greatest remainders are the first to be raised. -/
set_option linter.unusedSimpArgs false
set_option linter.unusedVariables false
set_option maxRecDepth 100000
set_option maxHeartbeats 8000000
namespace Go.Proofs.YtoccfcpggomlaaaGreatDoor.App

def sumTo (f : Nat → Int) : Nat → Int
 | 0 => 0
 | n + 1 => sumTo f n + f n

theorem sumTo_congr {f g : Nat → Int} : ∀ {n : Nat}, (∀ i, i < n → f i = g i) → sumTo f n = sumTo g n
 | 0, _ => rfl
 | n + 1, h => by simp only [sumTo]; rw [sumTo_congr fun i hi => h i (by omega), h n (by omega)]
theorem sumTo_add (f g : Nat → Int) : ∀ n, sumTo (fun i => f i + g i) n = sumTo f n + sumTo g n
 | 0 => rfl
 | n + 1 => by simp only [sumTo]; rw [sumTo_add f g n]; omega
theorem sumTo_mul (c : Int) (f : Nat → Int) : ∀ n, sumTo (fun i => c * f i) n = c * sumTo f n
 | 0 => by simp [sumTo]
 | n + 1 => by simp only [sumTo]; rw [sumTo_mul c f n, Int.mul_add]
theorem sumTo_le {f g : Nat → Int} {n : Nat} (h : ∀ i, i < n → f i ≤ g i) : sumTo f n ≤ sumTo g n := by
 induction n with
 | zero => exact Int.le_refl _
 | succ n ih =>
   simp only [sumTo]
   have := ih fun i hi => h i (by omega)
   have := h n (by omega)
   omega
theorem sumTo_nonneg {f : Nat → Int} {n : Nat} (h : ∀ i, i < n → 0 ≤ f i) : 0 ≤ sumTo f n := by
 induction n with
 | zero => simp [sumTo]
 | succ n ih => simp only [sumTo]; have := ih fun i hi => h i (by omega); have := h n (by omega); omega
theorem sumTo_const (c : Int) : ∀ n : Nat, sumTo (fun _ => c) n = n * c
 | 0 => by simp [sumTo]
 | n + 1 => by simp only [sumTo]; rw [sumTo_const c n]; rw [Int.natCast_add, Int.add_mul]; simp
theorem sumTo_ge_one {f : Nat → Int} {n j : Nat} (h : ∀ i, i < n → 0 ≤ f i) (hj : j < n) : f j ≤ sumTo f n := by
 induction n with
 | zero => omega
 | succ n ih =>
   simp only [sumTo]
   by_cases e : j = n
   ·subst e; have := sumTo_nonneg (f := f) (n := j) fun i hi => h i (by omega); omega
   ·have := ih (fun i hi => h i (by omega)) (by omega); have := h n (by omega); omega

/-- The places in the order of falling remainders, the first one first. -/
structure Order (r : Nat → Int) (n : Nat) (L : List Nat) : Prop where
 len : L.length = n
 mem : ∀ i, i ∈ L ↔ i < n
 nodup : L.Nodup
 sorted : ∀ i j (hi : i < j) (hj : j < L.length), ¬ (r (L[i]'(by omega)) < r L[j] ∨ r L[j] = r (L[i]'(by omega)) ∧ L[j] < L[i]'(by omega))

theorem nodup_take {l : List Nat} (h : l.Nodup) {k p : Nat} (hp : p < l.length) : l[p] ∈ l.take k ↔ p < k := by
 constructor
 ·intro hm
  obtain ⟨q, hq, e⟩ := List.getElem_of_mem hm
  rw [List.getElem_take] at e
  have hq' : q < k := by rw [List.length_take] at hq; omega
  have hq2 : q < l.length := by rw [List.length_take] at hq; omega
  have := (List.getElem_inj h).1 e
  omega
 ·intro hk
  rw [List.mem_take_iff_getElem]
  exact ⟨p, by omega, rfl⟩

theorem first_max {r : Nat → Int} {n : Nat} {L : List Nat} (O : Order r n L) (s : Int) (h0 : ∀ i, i < n → 0 ≤ r i) (h1 : ∀ i, i < n → r i < s)
  (k : Nat) (hk : k < n) (v : Nat → Int) (hv : ∀ i, i < n → v i = r i - (if i ∈ L.take k then s else 0)) (b : Nat) (hb : b < n)
  (hm : ∀ j, j < n → v j ≤ v b) (hf : ∀ j, j < b → v j < v b) : b = L[k]'(by have := O.len; omega) := by
 have hl := O.len
 have hkl : k < L.length := by omega
 have hmn : L[k] < n := (O.mem _).1 (List.getElem_mem hkl)
 have vm := hv _ hmn
 rw [if_neg (by rw [nodup_take O.nodup hkl]; omega)] at vm
 have h0m := h0 _ hmn
 have vb := hv _ hb
 have hmb := hm _ hmn
 have h1b := h1 _ hb
 have hnb : ¬ b ∈ L.take k := by
  intro hc; rw [if_pos hc] at vb; omega
 rw [if_neg hnb] at vb
 obtain ⟨p, hp, e⟩ := List.getElem_of_mem ((O.mem b).2 hb)
 by_cases hpk : p = k
 ·subst hpk; exact e.symm
 ·have hkp : k < p := by
   rcases Nat.lt_or_ge k p with h | h
   ·exact h
   ·exfalso; apply hnb; rw [← e, nodup_take O.nodup hp]; omega
  have hs := O.sorted k p hkp hp
  rw [e] at hs
  have hne : L[k] ≠ b := by
   intro hc; rw [← e] at hc; have := (List.getElem_inj O.nodup).1 hc; omega
  rcases Nat.lt_or_ge L[k] b with h | h
  ·have := hf _ h; omega
  ·omega

section
variable (t s : Int) (w : Nat → Int) (n : Nat)
def quo (i : Nat) : Int := t * w i / s
def rem (i : Nat) : Int := t * w i % s
def left : Int := t - sumTo (quo t s w) n
def out (L : List Nat) (k : Nat) (i : Nat) : Int := quo t s w i + if i ∈ L.take k then 1 else 0
end

section
variable {t s : Int} {w : Nat → Int} {n : Nat} (hs : sumTo w n = s) (h1 : 0 < s) (hw : ∀ i, i < n → 0 ≤ w i) (ht : 0 ≤ t)
include hs h1

omit h1 in
theorem rem_sum : sumTo (rem t s w) n = s * left t s w n := by
 have e : sumTo (fun i => t * w i) n = sumTo (fun i => s * quo t s w i + rem t s w i) n :=
  sumTo_congr fun i _ => by unfold quo rem; rw [Int.mul_ediv_add_emod]
 rw [sumTo_mul, hs, sumTo_add, sumTo_mul] at e
 unfold left
 rw [Int.mul_sub, Int.mul_comm s t]
 omega
omit hs in
theorem rem_nonneg (i : Nat) : 0 ≤ rem t s w i := Int.emod_nonneg _ (by omega)
omit hs in
theorem rem_lt (i : Nat) : rem t s w i < s := Int.emod_lt_of_pos _ h1

theorem left_nonneg : 0 ≤ left t s w n := by
 have e := rem_sum (t := t) hs
 have h := sumTo_nonneg (f := rem t s w) (n := n) fun i _ => rem_nonneg h1 i
 rw [e] at h
 rcases Int.lt_or_le (left t s w n) 0 with h2 | h2
 ·have := Int.mul_neg_of_pos_of_neg h1 h2; omega
 ·exact h2

theorem left_lt : left t s w n < n := by
 have hn : 0 < n := by
  rcases Nat.eq_zero_or_pos n with h | h
  ·subst h; simp [sumTo] at hs; omega
  ·exact h
 have e := rem_sum (t := t) hs
 have h : sumTo (rem t s w) n ≤ sumTo (fun _ => s - 1) n := sumTo_le fun i _ => by have := rem_lt (t := t) (w := w) h1 i; omega
 rw [sumTo_const, e] at h
 rcases Int.lt_or_le (left t s w n) n with h2 | h2
 ·exact h2
 ·exfalso
  have h3 : s * n ≤ s * left t s w n := Int.mul_le_mul_of_nonneg_left h2 (by omega)
  have h4 : (n : Int) * (s - 1) = s * n - n := by rw [Int.mul_sub, Int.mul_comm s]; omega
  omega

omit hs h1 in
theorem sumTo_ind (l : List Nat) (hnd : l.Nodup) (hm : ∀ i, i ∈ l → i < n) : sumTo (fun i => if i ∈ l then (1 : Int) else 0) n = l.length := by
 induction l with
 | nil => simp only [List.not_mem_nil, if_false, List.length_nil]; rw [sumTo_const]; simp
 | cons a l ih =>
   have ha := (List.nodup_cons.1 hnd).1
   have e : sumTo (fun i => if i ∈ a :: l then (1 : Int) else 0) n = sumTo (fun i => (if i ∈ l then (1 : Int) else 0) + (if i = a then 1 else 0)) n :=
    sumTo_congr fun i _ => by
     by_cases h2 : i = a
     ·subst h2; simp [ha]
     ·simp [h2]
   have one : ∀ m, sumTo (fun i => if i = a then (1 : Int) else 0) m = if a < m then 1 else 0 := by
    intro m
    induction m with
    | zero => simp [sumTo]
    | succ m ih2 =>
      simp only [sumTo]; rw [ih2]
      by_cases h3 : a < m
      ·rw [if_pos h3, if_neg (by omega), if_pos (by omega)]; rfl
      ·by_cases h4 : m = a
       ·subst h4; simp
       ·rw [if_neg h3, if_neg h4, if_neg (by omega)]; rfl
   rw [e, sumTo_add, ih (List.nodup_cons.1 hnd).2 (fun i hi => hm i (List.mem_cons_of_mem _ hi)), one n, if_pos (hm a List.mem_cons_self)]
   simp

theorem out_sum {L : List Nat} (O : Order (rem t s w) n L) {k : Nat} (hk : (k : Int) = left t s w n) : sumTo (out t s w L k) n = t := by
 have hl := left_lt (t := t) hs h1
 have e : sumTo (out t s w L k) n = sumTo (fun i => quo t s w i + (if i ∈ L.take k then (1 : Int) else 0)) n := rfl
 rw [e, sumTo_add, sumTo_ind (L.take k) (O.nodup.sublist (List.take_sublist _ _)) (fun i hi => (O.mem i).1 (List.mem_of_mem_take hi)),
  List.length_take, O.len, Nat.min_eq_left (by omega), hk]
 unfold left; omega

/-- Whatever stands in the first places has a remainder. -/
theorem top_pos {L : List Nat} (O : Order (rem t s w) n L) {k : Nat} (hk : (k : Int) = left t s w n) (i : Nat) (hi : i ∈ L.take k) : 0 < rem t s w i := by
 have hl := left_lt (t := t) hs h1
 have he := rem_sum (t := t) hs
 obtain ⟨p, hp, e⟩ := List.getElem_of_mem hi
 rw [List.length_take, O.len] at hp
 rw [List.getElem_take] at e
 have hpl : p < L.length := by rw [O.len]; omega
 rcases Int.lt_or_le 0 (rem t s w i) with h | h
 ·exact h
 ·exfalso
  -- all from p on are 0; so the sum is at most that of the first p, which is less than s * k
  have hz : ∀ j, p ≤ j → ∀ hj : j < L.length, rem t s w L[j] = 0 := by
   intro j hpj hj
   have h0 := rem_nonneg (t := t) (w := w) h1 L[j]
   rcases Nat.eq_or_lt_of_le hpj with h2 | h2
   ·subst h2; rw [e] at *; omega
   ·have := O.sorted p j h2 hj
    have h4 : rem t s w L[p] = rem t s w i := by rw [e]
    omega
  have hb : sumTo (rem t s w) n ≤ sumTo (fun i => (s - 1) * (if i ∈ L.take p then (1 : Int) else 0)) n := by
   refine sumTo_le fun i hi => ?_
   obtain ⟨q, hq, e2⟩ := List.getElem_of_mem ((O.mem i).2 hi)
   by_cases hqp : q < p
   ·rw [if_pos (by rw [← e2, nodup_take O.nodup hq]; exact hqp)]
    have := rem_lt (t := t) (w := w) h1 i; omega
   ·rw [if_neg (by rw [← e2, nodup_take O.nodup hq]; exact hqp), ← e2, hz q (by omega) hq]; simp
  rw [sumTo_mul, sumTo_ind (L.take p) (O.nodup.sublist (List.take_sublist _ _)) (fun i hi => (O.mem i).1 (List.mem_of_mem_take hi)),
   List.length_take, O.len, Nat.min_eq_left (by omega), he] at hb
  have h3 : s * left t s w n ≥ s * (p + 1) := Int.mul_le_mul_of_nonneg_left (by omega) (by omega)
  have h4 : (s - 1) * (p : Int) = s * p - p := by rw [Int.sub_mul]; omega
  have h5 : s * ((p : Int) + 1) = s * p + s := by rw [Int.mul_add]; omega
  omega

omit hs h1 in
theorem quo_mul (i : Nat) : quo t s w i * s = t * w i - rem t s w i := by
 have := Int.mul_ediv_add_emod (t * w i) s
 unfold quo rem
 rw [Int.mul_comm]; omega

theorem out_near {L : List Nat} (O : Order (rem t s w) n L) {k : Nat} (hk : (k : Int) = left t s w n) (i : Nat) :
  t * w i - s < out t s w L k i * s ∧ out t s w L k i * s < t * w i + s := by
 have e := quo_mul (t := t) (s := s) (w := w) i
 have r0 := rem_nonneg (t := t) (w := w) h1 i
 have r1 := rem_lt (t := t) (w := w) h1 i
 unfold out
 by_cases hi : i ∈ L.take k
 ·have := top_pos hs h1 O hk i hi
  rw [if_pos hi, Int.add_mul, e]; omega
 ·rw [if_neg hi, Int.add_zero, e]; omega

theorem out_zero {L : List Nat} (O : Order (rem t s w) n L) {k : Nat} (hk : (k : Int) = left t s w n) (i : Nat) (hi : w i = 0) : out t s w L k i = 0 := by
 have e : rem t s w i = 0 := by unfold rem; rw [hi]; simp
 unfold out
 rw [if_neg (fun hc => by have := top_pos hs h1 O hk i hc; omega)]
 unfold quo; rw [hi]; simp

omit hs in
include hw ht in
theorem quo_nonneg (i : Nat) (hi : i < n) : 0 ≤ quo t s w i := Int.ediv_nonneg (Int.mul_nonneg ht (hw i hi)) (by omega)

omit hs in
include hw ht in
theorem out_nonneg (L : List Nat) (k : Nat) (i : Nat) (hi : i < n) : 0 ≤ out t s w L k i := by
 have := quo_nonneg h1 hw ht i hi
 unfold out; split <;> omega

include ht in
theorem out_mono {L : List Nat} (O : Order (rem t s w) n L) {k : Nat} (hk : (k : Int) = left t s w n) (i j : Nat) (hi : i < n) (hj : j < n) (hij : w j < w i) :
  out t s w L k j ≤ out t s w L k i := by
 have ei := quo_mul (t := t) (s := s) (w := w) i
 have ej := quo_mul (t := t) (s := s) (w := w) j
 have hm : t * w j ≤ t * w i := Int.mul_le_mul_of_nonneg_left (by omega) ht
 have hq : quo t s w j ≤ quo t s w i := Int.ediv_le_ediv h1 hm
 unfold out
 by_cases c1 : j ∈ L.take k
 ·by_cases c2 : i ∈ L.take k
  ·rw [if_pos c1, if_pos c2]; omega
  ·rw [if_pos c1, if_neg c2]
   rcases Int.lt_or_le (quo t s w j) (quo t s w i) with h | h
   ·omega
   ·exfalso
    have e : quo t s w j = quo t s w i := by omega
    rw [e] at ej
    have hpos := top_pos hs h1 O hk j c1
    have htp : 0 < t := by
     rcases Int.lt_or_le 0 t with h2 | h2
     ·exact h2
     ·exfalso
      have : t = 0 := by omega
      subst this
      unfold rem at hpos; simp at hpos
    have hm2 : t * w j < t * w i := Int.mul_lt_mul_of_pos_left hij htp
    obtain ⟨p, hp, e1⟩ := List.getElem_of_mem ((O.mem j).2 hj)
    obtain ⟨q, hq, e2⟩ := List.getElem_of_mem ((O.mem i).2 hi)
    have hpk : p < k := by rw [← e1, nodup_take O.nodup hp] at c1; exact c1
    have hqk : ¬ q < k := by rw [← e2, nodup_take O.nodup hq] at c2; exact c2
    have := O.sorted p q (by omega) hq
    rw [e1, e2] at this
    omega
 ·rw [if_neg c1]; split <;> omega
end
end Go.Proofs.YtoccfcpggomlaaaGreatDoor.App
