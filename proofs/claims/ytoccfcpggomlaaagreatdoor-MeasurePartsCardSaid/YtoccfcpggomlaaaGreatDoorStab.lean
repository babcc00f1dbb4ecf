/- Insertion sort by a key keeps the order of equal keys: it is the sort by key and place. -/
import Derived.Sort.LotA
set_option linter.unusedSimpArgs false
set_option linter.unusedVariables false
set_option maxRecDepth 100000
set_option maxHeartbeats 8000000
namespace Go.Proofs.YtoccfcpggomlaaaGreatDoor.Stab
open Go.Sort
variable {α : Type} [Inhabited α]

theorem swp_at (d : Array α) (j : Nat) (h : j + 1 < d.size) :
  (swp d (j + 1) j)[j]! = d[j + 1]! ∧ (swp d (j + 1) j)[j + 1]! = d[j]! ∧ (swp d (j + 1) j).size = d.size
    ∧ ∀ p, p ≠ j → p ≠ j + 1 → (swp d (j + 1) j)[p]! = d[p]! := by
 unfold swp
 refine ⟨?_, ?_, by simp, ?_⟩
 ·rw [getElem!_pos _ j (by simp; omega), getElem!_pos d (j+1) h, Array.getElem_setIfInBounds, if_pos rfl] <;> first | omega | (simp; omega)
 ·rw [getElem!_pos _ (j+1) (by simp; omega), Array.getElem_setIfInBounds, if_neg (by omega), Array.getElem_setIfInBounds, if_pos rfl] <;> first | omega | (simp; omega)
 ·intro p h1 h2
  by_cases hp : p < d.size
  ·rw [getElem!_pos _ p (by simpa using hp), getElem!_pos d p hp, Array.getElem_setIfInBounds, if_neg (by omega), Array.getElem_setIfInBounds, if_neg (by omega)] <;> first | omega | (simp; omega)
  ·rw [getElem!_neg _ p (by simpa using hp), getElem!_neg d p hp]

theorem inner_eq (lt lt2 : α → α → Bool) (ix : α → Nat) (h2 : ∀ x y, ix y < ix x → lt2 x y = lt x y) (a : Nat) :
  ∀ (j : Nat) (d : Array α), j < d.size → (∀ p, a ≤ p → p < j → ix d[p]! < ix d[j]!) →
    insInner lt2 a j d = insInner lt a j d
    ∧ (insInner lt a j d).size = d.size
    ∧ (∀ p, (p < a ∨ j < p) → (insInner lt a j d)[p]! = d[p]!)
    ∧ (∀ p, a ≤ p → p ≤ j → ∃ p', a ≤ p' ∧ p' ≤ j ∧ (insInner lt a j d)[p]! = d[p']!)
 | 0, d, hj, hx => ⟨rfl, rfl, fun p hp => rfl, fun p h1 h2 => ⟨p, h1, h2, rfl⟩⟩
 | j + 1, d, hj, hx => by
   simp only [insInner]
   by_cases ha : j + 1 > a
   ·have e := h2 d[j+1]! d[j]! (hx j (by omega) (by omega))
    rw [e]
    by_cases hl : lt d[j+1]! d[j]! = true
    ·simp only [ha, hl, decide_true, Bool.and_self, if_true]
     obtain ⟨s1, s2, s3, s4⟩ := swp_at d j hj
     obtain ⟨r1, r2, r3, r4⟩ := inner_eq lt lt2 ix h2 a j (swp d (j+1) j) (by omega) (fun p h1 h3 => by
      rw [s1, s4 p (by omega) (by omega)]; exact hx p h1 (by omega))
     refine ⟨r1, by omega, fun p hp => ?_, fun p h1 h3 => ?_⟩
     ·by_cases hp1 : p = j
      ·omega
      ·by_cases hp2 : p = j + 1
       ·omega
       ·rw [r3 p (by omega), s4 p hp1 hp2]
     ·by_cases hp2 : p = j + 1
      ·subst hp2
       exact ⟨j, by omega, by omega, by rw [r3 (j+1) (by omega), s2]⟩
      ·obtain ⟨q, q1, q2, q3⟩ := r4 p h1 (by omega)
       by_cases hq : q = j
       ·subst hq; exact ⟨q + 1, by omega, by omega, by rw [q3, s1]⟩
       ·exact ⟨q, q1, by omega, by rw [q3, s4 q hq (by omega)]⟩
    ·simp only [hl, Bool.and_false]
     exact ⟨rfl, rfl, fun p hp => rfl, fun p h1 h2 => ⟨p, h1, h2, rfl⟩⟩
   ·simp only [ha, decide_false, Bool.false_and]
    exact ⟨rfl, rfl, fun p hp => rfl, fun p h1 h2 => ⟨p, h1, h2, rfl⟩⟩

theorem outer_eq (lt lt2 : α → α → Bool) (ix : α → Nat) (h2 : ∀ x y, ix y < ix x → lt2 x y = lt x y) (a b : Nat) :
  ∀ (n i : Nat) (d : Array α), b - i ≤ n → a ≤ i → b ≤ d.size → (∀ p q, a ≤ p → p < q → i ≤ q → q < b → ix d[p]! < ix d[q]!) →
    insOuter lt2 a b i d = insOuter lt a b i d
 | n, i, d, hn, hi, hb, hx => by
   rw [insOuter.eq_def lt2, insOuter.eq_def lt]
   by_cases hlt : i < b
   ·rw [if_pos hlt, if_pos hlt]
    obtain ⟨r1, r2, r3, r4⟩ := inner_eq lt lt2 ix h2 a i d (by omega) (fun p h1 h3 => hx p i h1 h3 (Nat.le_refl _) hlt)
    rw [r1]
    match n with
    | 0 => omega
    | n + 1 =>
      refine outer_eq lt lt2 ix h2 a b n (i+1) _ (by omega) (by omega) (by omega) (fun p q h1 h3 h4 h5 => ?_)
      rw [r3 q (by omega)]
      by_cases hp : p ≤ i
      ·obtain ⟨p', h6, h7, h8⟩ := r4 p h1 hp
       rw [h8]; exact hx p' q h6 (by omega) (by omega) h5
      ·rw [r3 p (by omega)]; exact hx p q h1 h3 (by omega) h5
   ·rw [if_neg hlt, if_neg hlt]

def ltKey (key : α → Int) (x y : α) : Bool := decide (key y < key x)
def ltLex (key : α → Int) (ix : α → Nat) (x y : α) : Bool := decide (key y < key x ∨ key x = key y ∧ ix x < ix y)

omit [Inhabited α] in
theorem ltLex_swo (key : α → Int) (ix : α → Nat) : SWO (ltLex key ix) where
 irrefl x := by simp [ltLex]
 trans x y z := by simp only [ltLex, decide_eq_true_eq]; omega
 ntrans x y z := by simp only [ltLex, decide_eq_false_iff_not]; omega

theorem sort_stable (key : α → Int) (ix : α → Nat) (d : Array α) (hd : ∀ p q, p < q → q < d.size → ix d[p]! < ix d[q]!) :
  PermIn 0 d.size d (insertionSort (ltKey key) d 0 d.size) ∧ SortedIn (ltLex key ix) 0 d.size (insertionSort (ltKey key) d 0 d.size) := by
 have e : insertionSort (ltLex key ix) d 0 d.size = insertionSort (ltKey key) d 0 d.size := by
  unfold insertionSort
  refine outer_eq (ltKey key) (ltLex key ix) ix (fun x y h => ?_) 0 d.size d.size 1 d (by omega) (by omega) (Nat.le_refl _) (fun p q _ h3 _ h5 => hd p q h3 h5)
  simp only [ltLex, ltKey]
  congr 1
  rw [eq_iff_iff]; omega
 rw [← e]
 exact insertionSort_holds (ltLex_swo key ix) d 0 d.size (Nat.zero_le _) (Nat.le_refl _)
end Go.Proofs.YtoccfcpggomlaaaGreatDoor.Stab
