/- Merging in place: blocks exchanged, rotated, and two sorted parts merged. Plain facts on arrays. -/
import Derived.Test.YtnbnoacadhoimaaGreatDoorDeG
import Derived.Sort.LotA
import Derived.BigRegion
import Derived.BigQuiet
import Derived.Sort.WalkC
set_option linter.unusedSimpArgs false
set_option linter.unusedVariables false
set_option maxRecDepth 100000
set_option maxHeartbeats 8000000
namespace Go.Proofs.YtnbnoacadhoimaaGreatDoor.Sy
open Go Go.Sort

section
variable {α : Type} [Inhabited α]
/-- The first n of two blocks exchanged. -/
def swr (d : Array α) (x y : Nat) : Nat → Array α
  | 0 => d
  | n + 1 => swp (swr d x y n) (x + n) (y + n)
theorem swr_size (d : Array α) (x y : Nat) : ∀ n, (swr d x y n).size = d.size
  | 0 => rfl
  | n + 1 => by rw [swr, size_swp, swr_size d x y n]
theorem swr_get {d : Array α} {x y : Nat} : ∀ n, x + n ≤ y → y + n ≤ d.size → ∀ k, (swr d x y n)[k]! = if x ≤ k ∧ k < x + n then d[y + (k - x)]! else if y ≤ k ∧ k < y + n then d[x + (k - y)]! else d[k]!
  | 0, _, _, k => by
    rw [if_neg (by omega), if_neg (by omega)]; rfl
  | n + 1, h1, h2, k => by
    have ih := swr_get n (d := d) (x := x) (y := y) (by omega) (by omega)
    rw [swr, swp_get _ (by rw [swr_size]; omega) (by rw [swr_size]; omega), ih, ih, ih]
    by_cases e1 : k = y + n
    · subst e1
      rw [if_pos rfl, if_neg (show ¬ (x ≤ x + n ∧ x + n < x + n) by omega), if_neg (show ¬ (y ≤ x + n ∧ x + n < y + n) by omega), if_neg (show ¬ (x ≤ y + n ∧ y + n < x + (n + 1)) by omega), if_pos (show y ≤ y + n ∧ y + n < y + (n + 1) by omega)]
      rw [show y + n - y = n by omega]
    · rw [if_neg e1]
      by_cases e2 : k = x + n
      · subst e2
        rw [if_pos rfl, if_neg (show ¬ (x ≤ y + n ∧ y + n < x + n) by omega), if_neg (show ¬ (y ≤ y + n ∧ y + n < y + n) by omega), if_pos (show x ≤ x + n ∧ x + n < x + (n + 1) by omega)]
        rw [show x + n - x = n by omega]
      · rw [if_neg e2]
        by_cases c1 : x ≤ k ∧ k < x + n
        · rw [if_pos c1, if_pos (show x ≤ k ∧ k < x + (n + 1) by omega)]
        · rw [if_neg c1, if_neg (show ¬ (x ≤ k ∧ k < x + (n + 1)) by omega)]
          by_cases c2 : y ≤ k ∧ k < y + n
          · rw [if_pos c2, if_pos (show y ≤ k ∧ k < y + (n + 1) by omega)]
          · rw [if_neg c2, if_neg (show ¬ (y ≤ k ∧ k < y + (n + 1)) by omega)]
theorem swr_perm {d : Array α} {x y a b : Nat} : ∀ n, a ≤ x → x + n ≤ y → y + n ≤ b → b ≤ d.size → PermIn a b d (swr d x y n)
  | 0, _, _, _, _ => permIn_refl _ _ _
  | n + 1, h1, h2, h3, h4 => permIn_trans _ _ _ _ _ (swr_perm n h1 (by omega) (by omega) h4) (swp_permIn _ a b (x + n) (y + n) (by omega) (by omega) (by omega) (by omega) (by rw [swr_size]; exact h4))
/-- f is d with the parts [a, m) and [m, b) exchanged. -/
structure Rot (d : Array α) (a m b : Nat) (f : Array α) : Prop where
  size : f.size = d.size
  out : ∀ k, k < a ∨ b ≤ k → f[k]! = d[k]!
  fst : ∀ k, a ≤ k → k < a + (b - m) → f[k]! = d[m + (k - a)]!
  snd : ∀ k, a + (b - m) ≤ k → k < b → f[k]! = d[k - (b - m)]!
theorem Rot.gt {d f : Array α} {m i j : Nat} (h : Rot d (m - i) m (m + j) f) (hi : i ≤ m) (hij : j < i) (hs : m + j ≤ d.size) : Rot (swr d (m - i) m j) (m - (i - j)) m (m + j) f := by
  have g := swr_get (d := d) (x := m - i) (y := m) j (by omega) hs
  refine ⟨by rw [swr_size]; exact h.size, fun k hk => ?_, fun k h1 h2 => ?_, fun k h1 h2 => ?_⟩
  · rw [g k]
    by_cases c1 : m - i ≤ k ∧ k < m - i + j
    · rw [if_pos c1, h.fst k c1.1 (by omega)]
    · rw [if_neg c1]
      by_cases c2 : m ≤ k ∧ k < m + j
      · omega
      · rw [if_neg c2]
        exact h.out k (by omega)
  · rw [g, if_neg (by omega), if_pos (by omega)]
    rw [h.snd k (by omega) (by omega)]
    congr 1
    omega
  · rw [g, if_neg (by omega), if_neg (by omega), h.snd k (by omega) h2]
theorem Rot.lt {d f : Array α} {m i j : Nat} (h : Rot d (m - i) m (m + j) f) (hi : i ≤ m) (hij : i < j) (hs : m + j ≤ d.size) : Rot (swr d (m - i) (m + j - i) i) (m - i) m (m + (j - i)) f := by
  have g := swr_get (d := d) (x := m - i) (y := m + j - i) i (by omega) (by omega)
  refine ⟨by rw [swr_size]; exact h.size, fun k hk => ?_, fun k h1 h2 => ?_, fun k h1 h2 => ?_⟩
  · rw [g k]
    by_cases c1 : m - i ≤ k ∧ k < m - i + i
    · omega
    · rw [if_neg c1]
      by_cases c2 : m + j - i ≤ k ∧ k < m + j - i + i
      · rw [if_pos c2, h.snd k (by omega) (by omega)]
        congr 1
        omega
      · rw [if_neg c2]
        exact h.out k (by omega)
  · rw [g, if_neg (by omega), if_neg (by omega), h.fst k h1 (by omega)]
  · rw [g, if_pos (by omega), h.fst k (by omega) (by omega)]
    congr 1
    omega
theorem Rot.eq {d f : Array α} {m i : Nat} (h : Rot d (m - i) m (m + i) f) (hi : i ≤ m) (hs : m + i ≤ d.size) : swr d (m - i) m i = f := by
  have g := swr_get (d := d) (x := m - i) (y := m) i (by omega) hs
  apply Array.ext
  · rw [swr_size, h.size]
  · intro k h1 h2
    rw [← getElem!_pos _ k h1, ← getElem!_pos _ k h2, g k]
    by_cases c1 : m - i ≤ k ∧ k < m - i + i
    · rw [if_pos c1, h.fst k c1.1 (by omega)]
    · rw [if_neg c1]
      by_cases c2 : m ≤ k ∧ k < m + i
      · rw [if_pos c2, h.snd k (by omega) c2.2]
        congr 1
        omega
      · rw [if_neg c2]
        exact (h.out k (by omega)).symm
/-- The rotated array. -/
def rotF (d : Array α) (a m b : Nat) : Array α := (Array.range d.size).map fun k => if k < a ∨ b ≤ k then d[k]! else if k < a + (b - m) then d[m + (k - a)]! else d[k - (b - m)]!
theorem rotF_rot (d : Array α) {a m b : Nat} (ha : a ≤ m) (hb : m ≤ b) (hs : b ≤ d.size) : Rot d a m b (rotF d a m b) := by
  have hz : (rotF d a m b).size = d.size := by unfold rotF; simp
  have g : ∀ k, k < d.size → (rotF d a m b)[k]! = if k < a ∨ b ≤ k then d[k]! else if k < a + (b - m) then d[m + (k - a)]! else d[k - (b - m)]! := fun k hk => by
    rw [getElem!_pos _ k (by rw [hz]; exact hk)]
    unfold rotF
    simp
  refine ⟨hz, fun k hk => ?_, fun k h1 h2 => ?_, fun k h1 h2 => ?_⟩
  · by_cases hkd : k < d.size
    · rw [g k hkd, if_pos hk]
    · rw [getElem!_neg _ k (by rw [hz]; exact hkd), getElem!_neg d k hkd]
  · rw [g k (by omega), if_neg (by omega), if_pos h2]
  · rw [g k (by omega), if_neg (by omega), if_neg (by omega)]
variable {lt : α → α → Bool}
/-- Both parts sorted; what stands in the second one is 'later'. -/
structure Mrg (lt : α → α → Bool) (a m b : Nat) (d : Array α) : Prop where
  fst : SortedIn lt a m d
  snd : SortedIn lt m b d
/-- What is sorted and split is sorted. -/
theorem sorted_join {a mid b : Nat} {d : Array α} (h1 : SortedIn lt a mid d) (h2 : SortedIn lt mid b d) (h3 : ∀ p q, a ≤ p → p < mid → mid ≤ q → q < b → lt d[q]! d[p]! = false) : SortedIn lt a b d := fun i j hi hij hj => by
  by_cases c1 : j < mid
  · exact h1 i j hi hij c1
  · by_cases c2 : mid ≤ i
    · exact h2 i j c2 hij hj
    · exact h3 i j hi (by omega) (by omega) hj
theorem sorted_same {a b : Nat} {d d' : Array α} (h : SortedIn lt a b d) (e : ∀ k, a ≤ k → k < b → d'[k]! = d[k]!) : SortedIn lt a b d' := fun i j hi hij hj => by
  rw [e i hi (by omega), e j (by omega) hj]; exact h i j hi hij hj
/-- A rotation whose parts are in order. -/
theorem Rot.mrg {d f : Array α} {a s m e b mid : Nat} (h : Rot d s m e f) (hM : Mrg lt a m b d) (ha : a ≤ s) (hs : s ≤ m) (he : m ≤ e) (hb : e ≤ b) (hmid : mid = s + (e - m)) : Mrg lt a s mid f ∧ Mrg lt mid e b f := by
  subst hmid
  have o1 : ∀ k, k < s → f[k]! = d[k]! := fun k hk => h.out k (.inl hk)
  have o2 : ∀ k, e ≤ k → f[k]! = d[k]! := fun k hk => h.out k (.inr hk)
  refine ⟨⟨sorted_same (fun i j hi hij hj => hM.fst i j hi hij (by omega)) (fun k _ h2 => o1 k h2), fun i j hi hij hj => ?_⟩, ⟨fun i j hi hij hj => ?_, sorted_same (fun i j hi hij hj => hM.snd i j (by omega) hij hj) (fun k h1 _ => o2 k h1)⟩⟩
  · rw [h.fst i hi (by omega), h.fst j (by omega) hj]
    exact hM.snd _ _ (by omega) (by omega) (by omega)
  · rw [h.snd i hi (by omega), h.snd j (by omega) hj]
    exact hM.fst _ _ (by omega) (by omega) (by omega)
/-- The cut of two sorted parts: s of the first and the mirrored e of the second. -/
structure Cut (lt : α → α → Bool) (a m b mid s e : Nat) (d : Array α) : Prop where
  left : ∀ p q, a ≤ p → p < s → e ≤ q → q < b → lt d[q]! d[p]! = false
  right : ∀ p q, s ≤ p → p < m → m ≤ q → q < e → lt d[q]! d[p]! = true
theorem Rot.parts {d f : Array α} (hS : SWO lt) {a s m e b mid : Nat} (h : Rot d s m e f) (hM : Mrg lt a m b d) (hc : Cut lt a m b mid s e d) (ha : a ≤ s) (hs : s ≤ m) (he : m ≤ e) (hb : e ≤ b) (hmid : mid = s + (e - m)) :
    ∀ p q, a ≤ p → p < mid → mid ≤ q → q < b → lt f[q]! f[p]! = false := by
  subst hmid
  intro p q h1 h2 h3 h4
  by_cases c1 : p < s
  · rw [h.out p (.inl c1)]
    by_cases c2 : q < e
    · rw [h.snd q h3 c2]
      exact hM.fst _ _ h1 (by omega) (by omega)
    · rw [h.out q (.inr (by omega))]
      exact hc.left p q h1 c1 (by omega) h4
  · rw [h.fst p (by omega) h2]
    by_cases c2 : q < e
    · rw [h.snd q h3 c2]
      exact hS.asymmA (hc.right _ _ (by omega) (by omega) (by omega) (by omega))
    · rw [h.out q (.inr (by omega))]
      exact hM.snd _ _ (by omega) (by omega) h4
/-- What holds between two neighbouring parts holds when each has been sorted by itself. -/
theorem parts_perm {d d1 d2 : Array α} {a mid b : Nat} (h : ∀ p q, a ≤ p → p < mid → mid ≤ q → q < b → lt d[q]! d[p]! = false) (h1 : PermIn a mid d d1) (h2 : PermIn mid b d1 d2) (hm : mid ≤ d.size) (hb : b ≤ d.size) :
    ∀ p q, a ≤ p → p < mid → mid ≤ q → q < b → lt d2[q]! d2[p]! = false := by
  have s1 : ∀ p q, a ≤ p → p < mid → mid ≤ q → q < b → lt d1[q]! d1[p]! = false := fun p q a1 a2 a3 a4 => by
    rw [h1.2.1 q (.inr a3)]
    exact permIn_all d d1 a mid (fun x => lt d[q]! x = false) hm h1 (fun i i1 i2 => h i q i1 i2 a3 a4) p a1 a2
  intro p q a1 a2 a3 a4
  rw [h2.2.1 p (.inl a2)]
  exact permIn_all d1 d2 mid b (fun x => lt x d1[p]! = false) (by rw [h1.1]; exact hb) h2 (fun i i1 i2 => s1 p i a1 a2 i1 i2) q a3 a4
end
end Go.Proofs.YtnbnoacadhoimaaGreatDoor.Sy
namespace Go.Proofs.YtnbnoacadhoimaaGreatDoor.Sy
open Go Go.Sort

section
variable {α : Type} [Inhabited α] {lt : α → α → Bool}
theorem Rot.nil (d : Array α) (a b : Nat) (h : a ≤ b) : Rot d a b b d := ⟨rfl, fun _ _ => rfl, fun k h1 h2 => by omega, fun k _ _ => by rw [Nat.sub_self, Nat.sub_zero]⟩
theorem Rot.nil2 (d : Array α) (a b : Nat) (h : a ≤ b) : Rot d a a b d := ⟨rfl, fun _ _ => rfl, fun k h1 h2 => by rw [show a + (k - a) = k by omega], fun k h1 h2 => by omega⟩
/-- One element moved up by one place more. -/
theorem Rot.up {d f : Array α} {a k : Nat} (h : Rot d a (a + 1) (k + 1) f) (ha : a ≤ k) (hs : k + 1 < d.size) : Rot d a (a + 1) (k + 2) (swp f k (k + 1)) := by
  have g := swp_get f (i := k) (j := k + 1) (by rw [h.size]; omega) (by rw [h.size]; omega)
  refine ⟨by rw [size_swp]; exact h.size, fun q hq => ?_, fun q h1 h2 => ?_, fun q h1 h2 => ?_⟩
  · rw [g, if_neg (by omega), if_neg (by omega)]; exact h.out q (by omega)
  · rw [g, if_neg (by omega)]
    by_cases e : q = k
    · subst e
      rw [if_pos rfl, h.out (q + 1) (.inr (Nat.le_refl _))]
      congr 1
      omega
    · rw [if_neg e]
      exact h.fst q h1 (by omega)
  · have e : q = k + 1 := by omega
    subst e
    rw [g, if_pos rfl, h.snd k (by omega) (by omega)]
    congr 1
    omega
/-- One element moved down by one place more. -/
theorem Rot.down {d f : Array α} {k m : Nat} (h : Rot d (k + 1) m (m + 1) f) (hk : k + 1 ≤ m) (hs : m < d.size) : Rot d k m (m + 1) (swp f (k + 1) k) := by
  have g := swp_get f (i := k + 1) (j := k) (by rw [h.size]; omega) (by rw [h.size]; omega)
  refine ⟨by rw [size_swp]; exact h.size, fun q hq => ?_, fun q h1 h2 => ?_, fun q h1 h2 => ?_⟩
  · rw [g, if_neg (by omega), if_neg (by omega)]; exact h.out q (by omega)
  · have e : q = k := by omega
    subst e
    rw [g, if_pos rfl, h.fst (q + 1) (Nat.le_refl _) (by omega)]
    congr 1
    omega
  · rw [g, if_neg (by omega)]
    by_cases e : q = k + 1
    · subst e
      rw [if_pos rfl, h.out k (.inl (by omega))]
      congr 1
      omega
    · rw [if_neg e]
      exact h.snd q (by omega) h2
/-- One element against a sorted part: it goes to place i - 1. -/
theorem one_left (hS : SWO lt) {a b i : Nat} {d f : Array α} (h : Rot d a (a + 1) i f) (hs : SortedIn lt (a + 1) b d) (h1 : a + 1 ≤ i) (h2 : i ≤ b) (hl : a + 1 < i → lt d[i - 1]! d[a]! = true) (hr : i < b → lt d[i]! d[a]! = false) : SortedIn lt a b f := by
  have e1 : ∀ k, a ≤ k → k < i - 1 → f[k]! = d[k + 1]! := fun k q1 q2 => by
    rw [h.fst k q1 (by omega)]; congr 1; omega
  have e2 : f[i - 1]! = d[a]! := by
    rw [h.snd (i - 1) (by omega) (by omega)]; congr 1; omega
  have e3 : ∀ k, i ≤ k → f[k]! = d[k]! := fun k q => h.out k (.inr q)
  have low : ∀ k, a + 1 ≤ k → k < i → lt d[a]! d[k]! = false := fun k q1 q2 => by
    refine hS.asymmA ?_
    by_cases e : k = i - 1
    · subst e; exact hl (by omega)
    · have q := hl (by omega)
      cases c : lt d[k]! d[a]! with
      | true => rfl
      | false =>
        have := hS.ntrans _ _ _ (hs k (i - 1) q1 (by omega) (by omega)) c
        rw [this] at q; cases q
  have high : ∀ k, i ≤ k → k < b → lt d[k]! d[a]! = false := fun k q1 q2 => by
    by_cases e : k = i
    · subst e; exact hr q2
    · exact hS.ntrans _ _ _ (hs i k h1 (by omega) q2) (hr (by omega))
  intro p q hp hpq hq
  by_cases c1 : q < i - 1
  · rw [e1 p hp (by omega), e1 q (by omega) c1]; exact hs _ _ (by omega) (by omega) (by omega)
  · by_cases c2 : q = i - 1
    · subst c2
      rw [e2, e1 p hp (by omega)]
      exact low _ (by omega) (by omega)
    · rw [e3 q (by omega)]
      by_cases c3 : p < i - 1
      · rw [e1 p hp c3]; exact hs _ _ (by omega) (by omega) hq
      · by_cases c4 : p = i - 1
        · subst c4; rw [e2]; exact high q (by omega) hq
        · rw [e3 p (by omega)]; exact hs _ _ (by omega) hpq hq
theorem one_right (hS : SWO lt) {a m i : Nat} {d f : Array α} (h : Rot d i m (m + 1) f) (hs : SortedIn lt a m d) (h1 : a ≤ i) (h2 : i ≤ m) (hl : a < i → lt d[m]! d[i - 1]! = false) (hr : i < m → lt d[m]! d[i]! = true) : SortedIn lt a (m + 1) f := by
  have e1 : ∀ k, k < i → f[k]! = d[k]! := fun k q => h.out k (.inl q)
  have e2 : f[i]! = d[m]! := by
    rw [h.fst i (Nat.le_refl _) (by omega)]; congr 1; omega
  have e3 : ∀ k, i < k → k < m + 1 → f[k]! = d[k - 1]! := fun k q1 q2 => by
    rw [h.snd k (by omega) q2]; congr 1; omega
  have low : ∀ k, a ≤ k → k < i → lt d[m]! d[k]! = false := fun k q1 q2 => by
    by_cases e : k = i - 1
    · subst e; exact hl (by omega)
    · exact hS.ntrans _ _ _ (hl (by omega)) (hs k (i - 1) q1 (by omega) (by omega))
  have high : ∀ k, i ≤ k → k < m → lt d[k]! d[m]! = false := fun k q1 q2 => by
    refine hS.asymmA ?_
    by_cases e : k = i
    · subst e; exact hr q2
    · have q := hr (by omega)
      cases c : lt d[m]! d[k]! with
      | true => rfl
      | false =>
        have := hS.ntrans _ _ _ c (hs i k h1 (by omega) q2)
        rw [this] at q; cases q
  intro p q hp hpq hq
  by_cases c1 : q < i
  · rw [e1 p (by omega), e1 q c1]; exact hs _ _ hp hpq (by omega)
  · by_cases c2 : q = i
    · subst c2
      rw [e2, e1 p hpq]
      exact low _ hp hpq
    · rw [e3 q (by omega) hq]
      by_cases c3 : p < i
      · rw [e1 p c3]; exact hs _ _ hp (by omega) (by omega)
      · by_cases c4 : p = i
        · subst c4; rw [e2]; exact high _ (by omega) (by omega)
        · rw [e3 p (by omega) (by omega)]; exact hs _ _ (by omega) (by omega) (by omega)
/-- Where the search begins and ends. -/
def lowB (a m b mid : Nat) : Nat := if mid < m then mid + m - b else a
def highB (m mid : Nat) : Nat := if mid < m then mid else m
theorem cut_of (hS : SWO lt) {a m b mid s : Nat} {d : Array α} (hM : Mrg lt a m b d) (ham : a < m) (hmb : m < b) (hmid : mid = (a + b) / 2) (h1 : lowB a m b mid ≤ s) (h2 : s ≤ highB m mid)
    (hl : lowB a m b mid < s → lt d[mid + m - s]! d[s - 1]! = false) (hr : s < highB m mid → lt d[mid + m - s - 1]! d[s]! = true) :
    (a ≤ s ∧ s ≤ m ∧ m ≤ mid + m - s ∧ mid + m - s ≤ b ∧ mid = s + (mid + m - s - m)) ∧ Cut lt a m b mid s (mid + m - s) d := by
  unfold lowB at h1 hl
  unfold highB at h2 hr
  have hb : a ≤ s ∧ s ≤ m ∧ m ≤ mid + m - s ∧ mid + m - s ≤ b ∧ mid = s + (mid + m - s - m) := by
    split at h1 <;> split at h2 <;> omega
  obtain ⟨b1, b2, b3, b4, b5⟩ := hb
  refine ⟨⟨b1, b2, b3, b4, b5⟩, ⟨fun p q q1 q2 q3 q4 => ?_, fun p q q1 q2 q3 q4 => ?_⟩⟩
  · have hlo := hl (by split at h1 <;> split <;> omega)
    have r1 : lt d[q]! d[mid + m - s]! = false := by
      by_cases e : q = mid + m - s
      · subst e; exact hS.irrefl _
      · exact hM.snd _ _ b3 (by omega) q4
    have r2 : lt d[s - 1]! d[p]! = false := by
      by_cases e : p = s - 1
      · subst e; exact hS.irrefl _
      · exact hM.fst _ _ q1 (by omega) (by omega)
    exact hS.ntrans _ _ _ (hS.ntrans _ _ _ r1 hlo) r2
  · have hhi := hr (by split at h2 <;> split <;> omega)
    cases c : lt d[q]! d[p]! with
    | true => rfl
    | false =>
      have r1 : lt d[mid + m - s - 1]! d[q]! = false := by
        by_cases e : q = mid + m - s - 1
        · subst e; exact hS.irrefl _
        · exact hM.snd _ _ q3 (by omega) (by omega)
      have r2 : lt d[p]! d[s]! = false := by
        by_cases e : p = s
        · subst e; exact hS.irrefl _
        · exact hM.fst _ _ b1 (by omega) q2
      have := hS.ntrans _ _ _ (hS.ntrans _ _ _ r1 c) r2
      rw [this] at hhi; cases hhi
end
end Go.Proofs.YtnbnoacadhoimaaGreatDoor.Sy
namespace Go.Proofs.YtnbnoacadhoimaaGreatDoor
open Go Go.RowKit Go.Sort Sy

/-- A row of places, after some draws. -/
abbrev PW {m : Nat} (W : World) (blk off : Nat) (d : Array (Fin (m + 1))) (k : Nat) : World := (Sort.putRow encF W blk off d).drewN k
section
variable {W : World} {blk off m cap N : Nat} {d0 : Array (Fin (m + 1))} {fn : Value}
theorem pw_cell (hH : Sort.Holds encF W blk off d0) {d : Array (Fin (m + 1))} (hd : d.size = d0.size) (k : Nat) {j : Nat} (hj : j < d.size) : (PW W blk off d k).cell? ⟨blk, off + j, none⟩ = some (encF d[j]!) ∧ (PW W blk off d k).frozen? ⟨blk, off + j, none⟩ = false := holds_putRow encF W blk off d0 d hH hd j hj
theorem swapRange_num (hH : Sort.Holds encF W blk off d0) (d : Array (Fin (m + 1))) (hd : d.size = d0.size) (hN : d.size = N) {x y n : Nat} (h1 : x + n ≤ y) (h2 : y + n ≤ N) (hz : N < 1000000) (k : Nat) :
    Calls Tryz.prog 228 #[.slice (some ⟨blk, off, none⟩) N cap, .int .i64 (x : Int), .int .i64 (y : Int), .int .i64 (n : Int), fn] (PW W blk off d k) fun e w' => e = .returned (.tuple #[]) ∧ ∃ k', w' = PW W blk off (swr d x y n) k' := by
  have HH := qh (And.intro hH (And.intro hd hN))
  clear hH hd hN
  go_enter Tryz.func228, Tryz.ntmps228
  go_wp2
  go_loopw [10] (fun u wr => ∃ (i q : Nat), u = .int .i64 (i : Int) ∧ i ≤ n ∧ wr = PW W blk off (swr d x y i) q) (fun u _ => n - (intOf u).toNat)
  case atStart => exact ⟨0, k, rfl, Nat.zero_le _, rfl⟩
  case round =>
    obtain ⟨i, q, rfl, hin, rfl⟩ := hrel
    by_cases hi : i < n
    · have p0 : decide (i < n) = true := by simpa using hi
      have HI := qh hi
      have hs : (swr d x y i).size = d0.size := by rw [swr_size]; exact HH.out.2.1
      obtain ⟨ca, fa⟩ := pw_cell HH.out.1 hs q (j := x + i) (by rw [swr_size, HH.out.2.2]; omega)
      obtain ⟨cb, fb⟩ := pw_cell HH.out.1 hs q (j := y + i) (by rw [swr_size, HH.out.2.2]; omega)
      obtain ⟨va, hva⟩ : ∃ v, (swr d x y i)[x + i]! = v := ⟨_, rfl⟩
      obtain ⟨vb, hvb⟩ : ∃ v, (swr d x y i)[y + i]! = v := ⟨_, rfl⟩
      rw [hva] at ca
      rw [hvb] at cb
      have hsw := swap_worldC encF W blk off (swr d x y i) q (x + i) (y + i) (by rw [swr_size, HH.out.2.2]; omega) (by rw [swr_size, HH.out.2.2]; omega)
      rw [hva, hvb] at hsw
      have HSW : Hid (((((PW W blk off (swr d x y i) q).setCell ⟨blk, off + (x + i), none⟩ (encF vb)).setCell ⟨blk, off + (y + i), none⟩ (encF va)).drew = PW W blk off (swr d x y (i + 1)) (q + 1))) := qh hsw
      obtain ⟨a', ha'⟩ : ∃ a', x + i = a' := ⟨_, rfl⟩
      obtain ⟨b', hb'⟩ : ∃ b', y + i = b' := ⟨_, rfl⟩
      have e1 : IntKind.i64.wrap ((x : Int) + (i : Int)) = (a' : Int) := by simp [IntKind.wrap, IntKind.bits, IntKind.signed]; omega
      have e2 : IntKind.i64.wrap ((y : Int) + (i : Int)) = (b' : Int) := by simp [IntKind.wrap, IntKind.bits, IntKind.signed]; omega
      have a1 : a' < N := by omega
      have b1 : b' < N := by omega
      have hne : ¬ a' = b' := by omega
      rw [ha'] at ca fa HSW
      rw [hb'] at cb fb HSW
      obtain ⟨z1, hz1⟩ : ∃ z, encF va = .int .i64 z := ⟨_, rfl⟩
      obtain ⟨z2, hz2⟩ : ∃ z, encF vb = .int .i64 z := ⟨_, rfl⟩
      rw [hz1] at ca HSW
      rw [hz2] at cb HSW
      clear hs hva hvb hsw ha' hb' hz1 hz2
      obtain ⟨wq, hwq⟩ : ∃ w, PW W blk off (swr d x y i) q = w := ⟨_, rfl⟩
      rw [hwq] at ca fa cb fb HSW ⊢
      have HW := qh hwq
      clear hwq
      go_upto_region 3 with (fail)
      go_big_region
      go_wp2
      exact ⟨⟨i + 1, q + 1, by simp, HI.out, HSW.out⟩, by have := HI.out; simp [intOf]; omega⟩
    · have p0 : decide (i < n) = false := by simpa using hi
      obtain rfl : i = n := by omega
      clear hi hin
      go_wp2
      go_end0
      exact ⟨rfl, _, rfl⟩
theorem rotate_num (hH : Sort.Holds encF W blk off d0) (d : Array (Fin (m + 1))) (hd : d.size = d0.size) (hN : d.size = N) {a s b : Nat} (h1 : a < s) (h2 : s < b) (h3 : b ≤ N) (hz : N < 1000000) (k : Nat) :
    Calls Tryz.prog 208 #[.slice (some ⟨blk, off, none⟩) N cap, .int .i64 (a : Int), .int .i64 (s : Int), .int .i64 (b : Int), fn] (PW W blk off d k) fun e w' => e = .returned (.tuple #[]) ∧ ∃ k', w' = PW W blk off (rotF d a s b) k' ∧ PermIn a b d (rotF d a s b) := by
  have hR := rotF_rot d (Nat.le_of_lt h1) (Nat.le_of_lt h2) (by omega)
  obtain ⟨F, hF⟩ : ∃ F, rotF d a s b = F := ⟨_, rfl⟩
  rw [hF] at hR ⊢
  have HS := qh (fun (c : Array (Fin (m + 1))) (hc : c.size = d.size) x y n q1 q2 => swapRange_num (cap := cap) (fn := fn) hH c (by omega) (N := N) (x := x) (y := y) (n := n) (by omega) q1 q2 hz)
  have HD := qh (And.intro hN hR)
  have m1 : IntKind.i64.wrap ((s : Int) - (a : Int)) = ((s - a : Nat) : Int) := by simp [IntKind.wrap, IntKind.bits, IntKind.signed]; omega
  have m2 : IntKind.i64.wrap ((b : Int) - (s : Int)) = ((b - s : Nat) : Int) := by simp [IntKind.wrap, IntKind.bits, IntKind.signed]; omega
  obtain ⟨i0, hi0⟩ : ∃ i, s - a = i := ⟨_, rfl⟩
  obtain ⟨j0, hj0⟩ : ∃ i, b - s = i := ⟨_, rfl⟩
  rw [hi0] at m1
  rw [hj0] at m2
  have HIJ := qh (And.intro hi0 hj0)
  clear hH hd hN hF hR hi0 hj0
  go_enter Tryz.func208, Tryz.ntmps208
  go_wp2
  clear m1 m2
  go_loopw [10, 11] (fun u v wr => ∃ (i j q : Nat) (c : Array (Fin (m + 1))), u = .int .i64 (i : Int) ∧ v = .int .i64 (j : Int) ∧ 0 < i ∧ 0 < j ∧ i ≤ s - a ∧ j ≤ b - s ∧ c.size = d.size ∧ Rot c (s - i) s (s + j) F ∧ PermIn a b d c ∧ wr = PW W blk off c q) (fun u v _ => (intOf u).toNat + (intOf v).toNat)
  case atStart => exact ⟨i0, j0, k, d, rfl, rfl, by have := HIJ.out.1; omega, by have := HIJ.out.2; omega, by have := HIJ.out.1; omega, by have := HIJ.out.2; omega, rfl, by have := HD.out.2; rwa [show s - i0 = a by have := HIJ.out.1; omega, show s + j0 = b by have := HIJ.out.2; omega], permIn_refl _ _ _, rfl⟩
  case round =>
    obtain ⟨i, j, q, c, rfl, rfl, hi, hj, hia, hjb, hcs, hRc, hPc, rfl⟩ := hrel
    have HR := qh (And.intro hRc (And.intro hPc hcs))
    have hdN := HD.out.1
    have HB := qh (And.intro hi (And.intro hj (And.intro hia hjb)))
    obtain ⟨x, hx⟩ : ∃ x, s - i = x := ⟨_, rfl⟩
    have e1 : IntKind.i64.wrap ((s : Int) - (i : Int)) = (x : Int) := by simp [IntKind.wrap, IntKind.bits, IntKind.signed]; omega
    by_cases hij : i = j
    · subst hij
      have q0 : ((i : Int) != (i : Int)) = false := by simp
      have HC := qh (HS.out c hcs x s i (by omega) (by omega) q)
      have hE : swr c x s i = F := by rw [← hx]; exact hRc.eq (by omega) (by omega)
      rw [hE] at HC
      have hP : PermIn a b d F := by
        rw [← hE]
        exact permIn_trans _ _ _ _ _ hPc (swr_perm i (by omega) (by omega) (by omega) (by omega))
      have HP := qh hP
      clear hRc hPc hcs hi hj hia hjb hx hE hP HS
      go_wp2_with (go_at_call 228; (with_reducible refine HC.out.mono ?_); rintro e8 w8 ⟨rfl, k8, rfl⟩)
      go_end0
      exact ⟨rfl, _, rfl, HP.out⟩
    · have q0 : ((i : Int) != (j : Int)) = true := by rw [bne_iff_ne]; omega
      by_cases hlt : j < i
      · have q1 : decide ((j : Int) < (i : Int)) = true := by rw [decide_eq_true_iff]; omega
        have q2 : decide (j < i) = true := by rw [decide_eq_true_iff]; exact hlt
        have HC := qh (HS.out c hcs x s j (by omega) (by omega) q)
        have hRR : Rot (swr c x s j) (s - (i - j)) s (s + j) F := by rw [← hx]; exact hRc.gt (by omega) hlt (by omega)
        have hP : PermIn a b d (swr c x s j) := permIn_trans _ _ _ _ _ hPc (swr_perm j (by omega) (by omega) (by omega) (by omega))
        have HR2 := qh (And.intro hRR (And.intro hP (show (swr c x s j).size = d.size by rw [swr_size, hcs])))
        have e3 : IntKind.i64.wrap ((i : Int) - (j : Int)) = ((i - j : Nat) : Int) := by simp [IntKind.wrap, IntKind.bits, IntKind.signed]; omega
        obtain ⟨i2, hi2⟩ : ∃ i2, i - j = i2 := ⟨_, rfl⟩
        rw [hi2] at e3 HR2
        have HI2 := qh hi2
        have HLT := qh hlt
        clear hRc hPc hcs hi hj hia hjb hx hRR hP HS hi2 hij hlt
        go_wp2_with (go_at_call 228; (with_reducible refine HC.out.mono ?_); rintro e8 w8 ⟨rfl, k8, rfl⟩)
        go_roundw
        case rel =>
          have b1 := HB.out
          have b2 := HI2.out
          have b3 := HLT.out
          exact ⟨i2, j, k8, _, rfl, rfl, by omega, b1.2.1, by omega, b1.2.2.2, HR2.out.2.2, HR2.out.1, HR2.out.2.1, rfl⟩
        case measure =>
          have b1 := HB.out
          have b2 := HI2.out
          have b3 := HLT.out
          simp [intOf]; omega
      · have q1 : decide ((j : Int) < (i : Int)) = false := by rw [decide_eq_false_iff_not]; omega
        have q2 : decide (j < i) = false := by rw [decide_eq_false_iff_not]; exact hlt
        have hlt2 : i < j := by omega
        obtain ⟨y, hy⟩ : ∃ y, s + j - i = y := ⟨_, rfl⟩
        have HC := qh (HS.out c hcs x y i (by omega) (by omega) q)
        have hRR : Rot (swr c x y i) (s - i) s (s + (j - i)) F := by rw [← hx, ← hy]; exact hRc.lt (by omega) hlt2 (by omega)
        have hP : PermIn a b d (swr c x y i) := permIn_trans _ _ _ _ _ hPc (swr_perm i (by omega) (by omega) (by omega) (by omega))
        have HR2 := qh (And.intro hRR (And.intro hP (show (swr c x y i).size = d.size by rw [swr_size, hcs])))
        have e2 : IntKind.i64.wrap ((s : Int) + (j : Int)) = (s : Int) + (j : Int) := by simp [IntKind.wrap, IntKind.bits, IntKind.signed]; omega
        have e4 : IntKind.i64.wrap ((s : Int) + (j : Int) - (i : Int)) = (y : Int) := by simp [IntKind.wrap, IntKind.bits, IntKind.signed]; omega
        have e3 : IntKind.i64.wrap ((j : Int) - (i : Int)) = ((j - i : Nat) : Int) := by simp [IntKind.wrap, IntKind.bits, IntKind.signed]; omega
        obtain ⟨j2, hj2⟩ : ∃ i2, j - i = i2 := ⟨_, rfl⟩
        rw [hj2] at e3 HR2
        have HJ2 := qh hj2
        have HLT := qh hlt2
        clear hRc hPc hcs hi hj hia hjb hx hy hRR hP HS hj2 hij hlt hlt2
        go_wp2_with (go_at_call 228; (with_reducible refine HC.out.mono ?_); rintro e8 w8 ⟨rfl, k8, rfl⟩)
        go_roundw
        case rel =>
          have b1 := HB.out
          have b2 := HJ2.out
          have b3 := HLT.out
          exact ⟨i, j2, k8, _, rfl, rfl, b1.1, by omega, b1.2.2.1, by omega, HR2.out.2.2, HR2.out.1, HR2.out.2.1, rfl⟩
        case measure =>
          have b1 := HB.out
          have b2 := HJ2.out
          have b3 := HLT.out
          simp [intOf]; omega
end
end Go.Proofs.YtnbnoacadhoimaaGreatDoor
