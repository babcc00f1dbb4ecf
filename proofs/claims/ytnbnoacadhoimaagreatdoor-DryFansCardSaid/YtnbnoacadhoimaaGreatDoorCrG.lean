/- The alarms of readings: shifted, cut off, of one sensor. Plain facts. -/
import Derived.Test.YtnbnoacadhoimaaGreatDoorCjG
import Derived.Test.YtnbnoacadhoimaaGreatDoorCcG
import Derived.Test.YtnbnoacadhoimaaGreatDoorCeG
import Derived.Test.YtnbnoacadhoimaaGreatDoorDbG
import Derived.Test.YtnbnoacadhoimaaGreatDoorYkG
import Derived.Test.YtnbnoacadhoimaaGreatDoorYqG
import Derived.Maps.Own
import Derived.Maps.OwnSet
import Derived.Maps.Views
import Derived.Carry
set_option linter.unusedSimpArgs false
set_option linter.unusedVariables false
set_option maxRecDepth 100000
set_option maxHeartbeats 8000000
namespace Go.Proofs.YtnbnoacadhoimaaGreatDoor
open Go Go.RowKit Go.Sort

theorem rsR_congr {x x' : Wt} {rs rs' : List (List Int)} {t k k' : Nat} (hr : x.r = x'.r) (hi : x.i = x'.i) : ∀ n i, (∀ j, i ≤ j → j < i + n → at2 rs t k - at2 rs j k = at2 rs' t k' - at2 rs' j k') → rsR x rs t k n i = rsR x' rs' t k' n i
  | 0, _, _ => rfl
  | n + 1, i, h => by
    rw [rsR, rsR, h i (Nat.le_refl _) (by omega), rsR_congr hr hi n (i + 1) (fun j a b => h j (by omega) (by omega)), hr, hi]
theorem spR_congr {x x' : Wt} {rs rs' : List (List Int)} {t k : Nat} (ho : x.o = x'.o) : ∀ n i c, (∀ j, i ≤ j → j < i + n → at2 rs t k - at2 rs t j = at2 rs' t k - at2 rs' t j) → spR x rs t k n i c = spR x' rs' t k n i c
  | 0, _, _, _ => rfl
  | n + 1, i, c, h => by
    rw [spR, spR, h i (Nat.le_refl _) (by omega), spR_congr ho n (i + 1) (c + 1) (fun j a b => h j (by omega) (by omega)), spR_congr ho n (i + 1) c (fun j a b => h j (by omega) (by omega)), ho]
theorem alJ_congr {x x' : Wt} {m m' : Nat} {rs rs' : List (List Int)} {t k : Nat} : ∀ j, j ≤ 3 → (∀ i, i < 3 → kindB x m rs t k i = kindB x' m' rs' t k i) → alJ x m rs t k j = alJ x' m' rs' t k j
  | 0, _, _ => rfl
  | j + 1, hj, h => by rw [alJ, alJ, alJ_congr j (by omega) h, h j (by omega)]
theorem alK_congr {x x' : Wt} {m m' : Nat} {rs rs' : List (List Int)} {t : Nat} : ∀ k, (∀ j, j < k → ∀ i, i < 3 → kindB x m rs t j i = kindB x' m' rs' t j i) → alK x m rs t k = alK x' m' rs' t k
  | 0, _ => rfl
  | k + 1, h => by rw [alK, alK, alK_congr k (fun j a => h j (by omega)), alJ_congr 3 (Nat.le_refl _) (h k (by omega))]
theorem alT_congr {x x' : Wt} {m : Nat} {rs rs' : List (List Int)} : ∀ t, (∀ s, s < t → ∀ k, k < m → ∀ i, i < 3 → kindB x m rs s k i = kindB x' m rs' s k i) → alT x m rs t = alT x' m rs' t
  | 0, _ => rfl
  | t + 1, h => by rw [alT, alT, alT_congr t (fun s a => h s (by omega)), alK_congr m (h t (by omega))]
theorem kind_eq {x x' : Wt} {m : Nat} {rs rs' : List (List Int)} {t k : Nat} (hx : 1 ≤ x.i) (ht : t < rs.length) (ht' : t < rs'.length) (hk : k < m) (hr : x.r = x'.r) (hi : x.i = x'.i) (ho : x.o = x'.o)
    (h1 : hotB x rs t k = hotB x' rs' t k) (h2 : ∀ j, j < t → at2 rs t k - at2 rs j k = at2 rs' t k - at2 rs' j k) (h3 : ∀ j, j < m → at2 rs t k - at2 rs t j = at2 rs' t k - at2 rs' t j) : ∀ i, i < 3 → kindB x m rs t k i = kindB x' m rs' t k i
  | 0, _ => h1
  | 1, _ => by
    show riseB x rs t k = riseB x' rs' t k
    rw [← rsR_rise (Nat.le_of_lt ht) hx, ← rsR_rise (Nat.le_of_lt ht') (by rw [← hi]; exact hx)]
    exact rsR_congr hr hi t 0 fun j _ hj => h2 j (by omega)
  | 2, _ => by
    show spotB x m rs t k = spotB x' m rs' t k
    rw [← spR_spot hk, ← spR_spot hk]
    exact spR_congr ho m 0 0 fun j _ hj => h3 j (by omega)
  | i + 3, h => by omega
/-- All temperatures by d. -/
def warmL (rs : List (List Int)) (d : Int) : List (List Int) := rs.map fun z => z.map (· + d)
theorem warm_at {rs : List (List Int)} {d : Int} {t k : Nat} (ht : t < rs.length) (hk : k < (rs.getD t []).length) : at2 (warmL rs d) t k = at2 rs t k + d := by
  unfold at2 warmL
  rw [List.getD_eq_getElem?_getD (l := rs)] at hk ⊢
  rw [List.getElem?_eq_getElem ht] at hk ⊢
  simp only [Option.getD_some] at hk ⊢
  simp [List.getD_eq_getElem?_getD, ht, hk]
theorem warm_al {x : Wt} {m : Nat} {rs : List (List Int)} {d : Int} (hg : Good m rs) (hx : 1 ≤ x.i) : alT ⟨x.a + d, x.r, x.i, x.o⟩ m (warmL rs d) rs.length = alT x m rs rs.length := by
  have hw : ∀ t k, t < rs.length → k < m → at2 (warmL rs d) t k = at2 rs t k + d := fun t k ht hk => warm_at ht (by rw [hg.len _ (getD_in ht)]; exact hk)
  refine alT_congr _ fun t ht k hk => kind_eq hx (by unfold warmL; rw [List.length_map]; exact ht) ht hk rfl rfl rfl ?_ (fun j hj => ?_) (fun j hj => ?_)
  · unfold hotB
    rw [hw t k ht hk, Bool.eq_iff_iff, decide_eq_true_iff, decide_eq_true_iff]
    dsimp only
    omega
  · rw [hw t k ht hk, hw j k (by omega) hk]; omega
  · rw [hw t k ht hk, hw t j ht hj]; omega
theorem take_at {rs : List (List Int)} {p t k : Nat} (h : t < p) : at2 (rs.take p) t k = at2 rs t k := by
  unfold at2
  rw [List.getD_eq_getElem?_getD (l := rs.take p), List.getElem?_take, if_pos h, ← List.getD_eq_getElem?_getD]
theorem take_al {x : Wt} {m : Nat} {rs : List (List Int)} {p : Nat} (hp : p ≤ rs.length) (hx : 1 ≤ x.i) : alT x m (rs.take p) p = alT x m rs p := by
  refine alT_congr _ fun t ht k hk => kind_eq hx (by rw [List.length_take]; omega) (by omega) hk rfl rfl rfl ?_ (fun j hj => ?_) (fun j hj => ?_)
  · unfold hotB; rw [take_at ht]
  · rw [take_at ht, take_at (by omega)]
  · rw [take_at ht, take_at ht]
theorem alJ_time {x : Wt} {m : Nat} {rs : List (List Int)} {t k : Nat} : ∀ j, ∀ a ∈ alJ x m rs t k j, a.1 = (t : Int)
  | 0, a, h => by cases h
  | j + 1, a, h => by
    rw [alJ, List.mem_append] at h
    rcases h with h | h
    · exact alJ_time j a h
    · split at h
      · rw [List.mem_singleton.1 h]
      · cases h
theorem alK_time {x : Wt} {m : Nat} {rs : List (List Int)} {t : Nat} : ∀ k, ∀ a ∈ alK x m rs t k, a.1 = (t : Int)
  | 0, a, h => by cases h
  | k + 1, a, h => by
    rw [alK, List.mem_append] at h
    exact h.elim (alK_time k a) (alJ_time 3 a)
theorem alT_split {x : Wt} {m : Nat} {rs : List (List Int)} {p : Nat} : ∀ q, ∃ R, alT x m rs (p + q) = alT x m rs p ++ R ∧ ∀ a ∈ R, (p : Int) ≤ a.1
  | 0 => ⟨[], by rw [List.append_nil]; rfl, fun a h => by cases h⟩
  | q + 1 => by
    obtain ⟨R, h1, h2⟩ := alT_split (x := x) (m := m) (rs := rs) (p := p) q
    refine ⟨R ++ alK x m rs (p + q) m, by rw [← Nat.add_assoc, alT, h1, List.append_assoc], fun a h => ?_⟩
    rcases List.mem_append.1 h with h | h
    · exact h2 a h
    · rw [alK_time m a h]; omega
/-- The first rows' alarms are the first alarms; what follows is later. -/
theorem alT_first {x : Wt} {m : Nat} {rs : List (List Int)} {p n : Nat} (h : p ≤ n) : (alT x m rs p).length ≤ (alT x m rs n).length ∧ (alT x m rs n).take (alT x m rs p).length = alT x m rs p ∧ ∀ j, (alT x m rs p).length ≤ j → j < (alT x m rs n).length → (p : Int) ≤ ((alT x m rs n).getD j (0, 0, [])).1 := by
  obtain ⟨R, h1, h2⟩ := alT_split (x := x) (m := m) (rs := rs) (p := p) (n - p)
  rw [show p + (n - p) = n by omega] at h1
  rw [h1]
  refine ⟨by rw [List.length_append]; omega, by rw [List.take_left], fun j a b => ?_⟩
  rw [List.getD_eq_getElem?_getD, List.getElem?_append_right a, List.getElem?_eq_getElem (by rw [List.length_append] at b; omega)]
  exact h2 _ (List.getElem_mem _)
def isHot (k : Nat) (p : Alm) : Bool := decide (p.2.1 = (k : Int)) && decide (p.2.2 = kindT 0)
theorem kindT_ne {i : Nat} (h : 0 < i) : kindT i ≠ kindT 0 := by
  match i, h with
  | 1, _ => decide
  | i + 2, _ => show ([115, 112, 111, 116] : List UInt8) ≠ _; decide
theorem hot_J {x : Wt} {m : Nat} {rs : List (List Int)} {t k s : Nat} : ((alJ x m rs t s 3).filter (isHot k)) = if s = k then (if hotB x rs t k then [((t : Int), (k : Int), kindT 0)] else []) else [] := by
  have e : alJ x m rs t s 3 = (if kindB x m rs t s 0 then [((t : Int), (s : Int), kindT 0)] else []) ++ (if kindB x m rs t s 1 then [((t : Int), (s : Int), kindT 1)] else []) ++ (if kindB x m rs t s 2 then [((t : Int), (s : Int), kindT 2)] else []) := by
    rw [alJ, alJ, alJ, alJ, List.nil_append]
  have f1 : (if kindB x m rs t s 1 then [((t : Int), (s : Int), kindT 1)] else []).filter (isHot k) = [] := by
    split
    · rw [List.filter_cons, if_neg (by unfold isHot; rw [decide_eq_false (kindT_ne (by omega)), Bool.and_false]; decide)]; rfl
    · rfl
  have f2 : (if kindB x m rs t s 2 then [((t : Int), (s : Int), kindT 2)] else []).filter (isHot k) = [] := by
    split
    · rw [List.filter_cons, if_neg (by unfold isHot; rw [decide_eq_false (kindT_ne (by omega)), Bool.and_false]; decide)]; rfl
    · rfl
  rw [e, List.filter_append, List.filter_append, f1, f2, List.append_nil, List.append_nil]
  show (if hotB x rs t s then _ else _ : List Alm).filter (isHot k) = _
  by_cases hs : s = k
  · subst hs
    rw [if_pos rfl]
    split
    · rw [List.filter_cons, if_pos (by unfold isHot; rw [decide_eq_true rfl, decide_eq_true rfl]; rfl)]; rfl
    · rfl
  · rw [if_neg hs]
    split
    · rw [List.filter_cons, if_neg (by unfold isHot; rw [decide_eq_false (by show ¬ (s : Int) = (k : Int); omega), Bool.false_and]; decide)]; rfl
    · rfl
theorem hot_K {x : Wt} {m : Nat} {rs : List (List Int)} {t k : Nat} : ∀ s, ((alK x m rs t s).filter (isHot k)) = if k < s then (if hotB x rs t k then [((t : Int), (k : Int), kindT 0)] else []) else []
  | 0 => by rw [if_neg (by omega)]; rfl
  | s + 1 => by
    rw [alK, List.filter_append, hot_K s, hot_J]
    by_cases h1 : k < s
    · rw [if_pos h1, if_neg (show ¬ s = k by omega), if_pos (show k < s + 1 by omega), List.append_nil]
    · rw [if_neg h1, List.nil_append]
      by_cases h2 : s = k
      · rw [if_pos h2, if_pos (show k < s + 1 by omega)]
      · rw [if_neg h2, if_neg (show ¬ k < s + 1 by omega)]
/-- When a sensor is too hot. -/
def hotTs (x : Wt) (rs : List (List Int)) (k : Nat) : Nat → List Int
  | 0 => []
  | t + 1 => hotTs x rs k t ++ if hotB x rs t k then [(t : Int)] else []
theorem hot_T {x : Wt} {m : Nat} {rs : List (List Int)} {k : Nat} (hk : k < m) : ∀ t, ((alT x m rs t).filter (isHot k)).map (·.1) = hotTs x rs k t
  | 0 => rfl
  | t + 1 => by
    rw [alT, List.filter_append, List.map_append, hot_T hk t, hot_K, if_pos hk, hotTs]
    split <;> rfl
theorem hotTs_congr {x : Wt} {rs rs' : List (List Int)} {k k' : Nat} : ∀ t, (∀ s, s < t → at2 rs s k = at2 rs' s k') → hotTs x rs k t = hotTs x rs' k' t
  | 0, _ => rfl
  | t + 1, h => by
    rw [hotTs, hotTs, hotTs_congr t (fun s a => h s (by omega))]
    have : hotB x rs t k = hotB x rs' t k' := by unfold hotB; rw [h t (by omega)]
    rw [this]
/-- One sensor alone. -/
def aloneL (rs : List (List Int)) (k : Nat) : List (List Int) := rs.map fun z => (z.drop k).take 1
theorem alone_at {rs : List (List Int)} {t k : Nat} (ht : t < rs.length) (hk : k < (rs.getD t []).length) : at2 (aloneL rs k) t 0 = at2 rs t k := by
  unfold at2 aloneL
  rw [List.getD_eq_getElem?_getD (l := rs)] at hk ⊢
  rw [List.getElem?_eq_getElem ht] at hk ⊢
  simp only [Option.getD_some] at hk ⊢
  simp [List.getD_eq_getElem?_getD, ht, hk]
/-- In the alarms of a sensor alone each one is its own. -/
theorem alone_hot {x : Wt} {rs : List (List Int)} : ∀ t, ((alT x 1 rs t).filter fun p => decide (p.2.2 = kindT 0)) = (alT x 1 rs t).filter (isHot 0) := fun t => by
  have hs : ∀ t, ∀ a ∈ alT x 1 rs t, a.2.1 = 0 := by
    intro t
    induction t with
    | zero => intro a h; cases h
    | succ t ih =>
      intro a h
      rw [alT, List.mem_append] at h
      rcases h with h | h
      · exact ih a h
      · rw [alK, alK, List.nil_append] at h
        have hJ : ∀ j, ∀ a ∈ alJ x 1 rs t 0 j, a.2.1 = 0 := by
          intro j
          induction j with
          | zero => intro a h; cases h
          | succ j ih2 =>
            intro a h
            rw [alJ, List.mem_append] at h
            rcases h with h | h
            · exact ih2 a h
            · split at h
              · rw [List.mem_singleton.1 h]; rfl
              · cases h
        exact hJ 3 a h
  refine List.filter_congr fun a ha => ?_
  unfold isHot
  rw [decide_eq_true (show a.2.1 = ((0 : Nat) : Int) from hs t a ha), Bool.true_and]
theorem alone_al {x : Wt} {m : Nat} {rs : List (List Int)} {k : Nat} (hg : Good m rs) (hk : k < m) : ((alT x 1 (aloneL rs k) rs.length).filter fun p => decide (p.2.2 = kindT 0)).map (·.1) = ((alT x m rs rs.length).filter (isHot k)).map (·.1) := by
  rw [alone_hot, hot_T (by omega), hot_T hk]
  exact hotTs_congr _ fun s hs => alone_at hs (by rw [hg.len _ (getD_in hs)]; exact hk)
theorem good_read {m : Nat} {rs : List (List Int)} (h : Good m rs) (h0 : 0 < rs.length) : readE rs = 0 := by
  have hr : ∀ z ∈ rs, rowE m z = 0 := fun z hz => by
    have h1 := h.len z hz
    have h2 := h.m0
    have h3 := h.m64
    rw [rowE_eq, if_neg (by omega), if_neg (by omega), if_neg (by omega), if_neg]
    rw [Bool.not_eq_true, List.any_eq_false]
    intro v hv
    rw [h.tmp z hz v hv]
    decide
  have hs : ∀ l : List (List Int), (∀ z ∈ l, rowE m z = 0) → rowsE m l = 0 := by
    intro l
    induction l with
    | nil => intro _; rfl
    | cons a l ih =>
      intro hl
      rw [rowsE_cons, if_pos (hl a (by simp))]
      exact ih fun z hz => hl z (by simp [hz])
  have hf := h.few
  unfold readE
  rw [if_neg (by omega), if_neg (by omega), h.len _ (getD_in h0)]
  exact hs rs hr
theorem good_warm {m : Nat} {rs : List (List Int)} {d : Nat} (h : Good m rs) (hT : ∀ z ∈ rs, ∀ v ∈ z, -300 ≤ v ∧ v ≤ 700) (hd : d < 256) : Good m (warmL rs d) := by
  refine ⟨fun z hz => ?_, fun z hz v hv => ?_, h.m0, h.m64, by unfold warmL; rw [List.length_map]; exact h.few⟩
  · obtain ⟨y, hy, rfl⟩ := List.mem_map.1 hz
    rw [List.length_map]; exact h.len y hy
  · obtain ⟨y, hy, rfl⟩ := List.mem_map.1 hz
    obtain ⟨u, hu, rfl⟩ := List.mem_map.1 hv
    have := hT y hy u hu
    simp [tmpB]; omega
theorem good_alone {m : Nat} {rs : List (List Int)} {k : Nat} (h : Good m rs) (hk : k < m) : Good 1 (aloneL rs k) := by
  refine ⟨fun z hz => ?_, fun z hz v hv => ?_, Nat.one_pos, by omega, by unfold aloneL; rw [List.length_map]; exact h.few⟩
  · obtain ⟨y, hy, rfl⟩ := List.mem_map.1 hz
    rw [List.length_take, List.length_drop, h.len y hy]; omega
  · obtain ⟨y, hy, rfl⟩ := List.mem_map.1 hz
    exact h.tmp y hy v (List.mem_of_mem_drop (List.mem_of_mem_take hv))
theorem good_take {m : Nat} {rs : List (List Int)} {p : Nat} (h : Good m rs) : Good m (rs.take p) :=
  ⟨fun z hz => h.len z (List.mem_of_mem_take hz), fun z hz => h.tmp z (List.mem_of_mem_take hz), h.m0, h.m64, by have := h.few; rw [List.length_take]; omega⟩
theorem watch_warm {x : Wt} {d : Nat} (h : watchB x = true) (ha : x.a ≤ 700) (hd : d < 256) : watchB ⟨x.a + d, x.r, x.i, x.o⟩ = true := by
  unfold watchB at h ⊢
  rw [Bool.and_eq_true] at h ⊢
  refine ⟨?_, h.2⟩
  have := tmp_sml h.1
  simp [tmpB]; omega
theorem len_le {rs : List (List Int)} {m : Nat} (h : Good m rs) : ∀ z ∈ rs, z.length ≤ 100000 := fun z hz => by rw [h.len z hz]; have := h.m64; omega
theorem Rv.first {w : World} {b o n p : Nat} {rs : List (List Int)} (h : Rv w (some ⟨b, o, none⟩) n rs) (hp : p ≤ n) : Rv w (some ⟨b, o, none⟩) p (rs.take p) := by
  have := h.sub (lo := 0) hp
  simpa using this
theorem Lv.first {w : World} {b o n p : Nat} {ps : List Alm} (h : Lv w (some ⟨b, o, none⟩) n ps) (hp : p ≤ n) : Lv w (some ⟨b, o, none⟩) p (ps.take p) := by
  refine ⟨by rw [List.length_take, h.len]; omega, fun h0 => ?_⟩
  obtain ⟨b', o', e, hb, hc⟩ := h.at_ (by omega)
  cases e
  refine ⟨b, o, rfl, hb, fun j hj => ?_⟩
  rw [List.getD_eq_getElem?_getD, List.getElem?_take, if_pos hj, ← List.getD_eq_getElem?_getD]
  exact hc j (by omega)
theorem Lv.zero {w : World} {A : Option Addr} : Lv w A 0 [] := ⟨rfl, fun h => by omega⟩
end Go.Proofs.YtnbnoacadhoimaaGreatDoor
namespace Go.Proofs.YtnbnoacadhoimaaGreatDoor
open Go Go.RowKit Go.Maps

theorem int_key : Keyed Tryz.prog 3 := int_keyed Tryz.underlying3
theorem lit_wf {k : Int} (h : R64 k) : (Lit.int .i64 k).wf = true := by
  obtain ⟨h1, h2⟩ := h
  simp [Lit.wf, IntKind.min, IntKind.max, IntKind.signed, IntKind.bits]; omega
/-- A set of numbers. -/
structure SetI (w : World) (b n : Nat) (D : DataW Unit) (S : List Int) : Prop where
  own : w.ownsMap Tryz.prog 3 (plainElem Tryz.prog 4) b n D
  val : ∀ k : Int, D.atKey (.int .i64 k) (.lit (.bool false)) = .lit (.bool (decide (k ∈ S)))
theorem SetI.made (w : World) : SetI (w.alloc (.map #[] 0)) w.heap.size 0 (.map []) [] :=
  ⟨World.ownsMap_made _ _ _ _, fun k => rfl⟩
theorem SetI.keep {w w' : World} {b n : Nat} {D : DataW Unit} {S : List Int} (h : SetI w b n D S) (hb : Below w.heap.size w w') : SetI w' b n D S :=
  ⟨h.own.kept (row := none) ⟨hb.os, hb.tape, hb.output, hb.size, fun k hk _ => hb.block k hk⟩ (by simp), h.val⟩
theorem SetI.look {w : World} {b n : Nat} {D : DataW Unit} {S : List Int} (h : SetI w b n D S) {k : Int} (hk : R64 k) {r : Bool} (hr : decide (k ∈ S) = r) (j : Nat) : (Instr.lookup 69 (.map (some b)) (.int .i64 k) false).run Tryz.prog (w.drewN j) = .ok (.bool r) (w.drewN j) := by
  have ho : (w.drewN j).ownsMap Tryz.prog 3 (plainElem Tryz.prog 4) b n D := h.own
  obtain ⟨v, ps, hrun, hv⟩ := ho.lookup int_key Tryz.underlying69 (z := .bool false) (by kernel_rfl) (plainElem_bool Tryz.underlying4 false) (keyOf_int_mk Tryz.underlying3 (lit_wf hk))
  rw [h.val k, hr] at hv
  have : v = .bool r := by
    cases v <;> simp [plainElem, Tryz.underlying4] at hv
    rw [hv.1]
  rw [this] at hrun
  exact hrun
theorem SetI.put {w w' : World} {b n : Nat} {D : DataW Unit} {S : List Int} {k : Int} (h : SetI w b n D S) (ho : w'.ownsMap Tryz.prog 3 (plainElem Tryz.prog 4) b (n + 1) (D.put (.int .i64 k) (.lit (.bool true)))) : SetI w' b (n + 1) (D.put (.int .i64 k) (.lit (.bool true))) (S ++ [k]) := by
  refine ⟨ho, fun x => ?_⟩
  by_cases e : x = k
  · subst e
    rw [atKey_put_same (k := .int .i64 x) h.own.isMap (by simp [WideAt.IsKeyLit])]
    simp
  · rw [atKey_put_other (by simpa using e), h.val]
    simp [e]
section
variable {w : World} {A B : Option Addr} {n c d : Nat} {la : List Int} {L : List Nat}
theorem falling_ok (h : Iv w A n la) (h' : Iv w B n (L.map Int.ofNat)) (hn : n ≤ 1000) (h1 : L.Nodup) (h2 : ∀ x ∈ L, x < n) (h3 : ∀ i, 0 < i → i < n → la.getD (L.getD i 0) 0 ≤ la.getD (L.getD (i - 1) 0) 0) :
    Calls Tryz.prog 20 #[.slice A n c, .slice B n d] w fun e w' => e = .returned (.bool true) ∧ Below w.heap.size w w' := by
  have H := qh h
  have H' := qh h'
  have HN := qh (And.intro hn (And.intro h1 (And.intro h2 h3)))
  have hlen : L.length = n := by simpa using h'.len
  have HL := qh hlen
  clear h h' hn h1 h2 h3 hlen
  have hmm := @run_makeMap Tryz.prog
  go_enter Tryz.func20, Tryz.ntmps20
  go_wp2
  go_loopw [16] (fun u wr => ∃ (i : Nat) (D : DataW Unit), u = .int .i64 (i : Int) ∧ i ≤ n ∧ Below w.heap.size w wr ∧ SetI wr w.heap.size i D ((L.take i).map Int.ofNat)) (fun u _ => n - (intOf u).toNat)
  case atStart => exact ⟨0, _, rfl, Nat.zero_le _, bi, SetI.made w⟩
  case round =>
    obtain ⟨i, D, rfl, hin, hb, hS⟩ := hrel
    have _ := bm hb
    have HS := qh hS
    have hnn := HN.out.1
    clear hS
    by_cases hi : i < n
    · have p0 : decide (i < n) = true := by simpa using hi
      have HI := qh hi
      obtain ⟨b, o, rfl, hbl, hat⟩ := (H.out.below hb).at_ (by omega)
      obtain ⟨b', o', rfl, hbl', hat'⟩ := (H'.out.below hb).at_ (by omega)
      have hcast : ∀ j, j < n → (L.map Int.ofNat).getD j 0 = ((L.getD j 0 : Nat) : Int) := fun j hj => by
        have hl : j < L.length := by rw [HL.out]; exact hj
        simp [List.getD_eq_getElem?_getD, hl]
      have k0 := hat' i hi
      rw [hcast i hi] at k0
      obtain ⟨x, hx⟩ : ∃ x, L.getD i 0 = x := ⟨_, rfl⟩
      rw [hx] at k0
      have hxn : x < n := by rw [← hx]; exact HN.out.2.2.1 _ (getD_in (d := 0) (by rw [HL.out]; exact hi))
      have k1 := hat x hxn
      have q1 : decide ((x : Int) < 0) = false := by rw [decide_eq_false_iff_not]; omega
      have q2 : decide ((n : Int) ≤ (x : Int)) = false := by rw [decide_eq_false_iff_not]; omega
      have q3 : decide (n ≤ x) = false := by rw [decide_eq_false_iff_not]; omega
      have hnot : decide ((x : Int) ∈ (L.take i).map Int.ofNat) = false := by
        rw [decide_eq_false_iff_not]
        intro hm
        obtain ⟨y, hy, hyx⟩ := List.mem_map.1 hm
        have hyx : y = x := by have : (y : Int) = (x : Int) := hyx; omega
        subst hyx
        obtain ⟨j, hj, hjy⟩ := List.mem_iff_getElem.1 hy
        rw [List.getElem_take] at hjy
        have hji : j < i := by rw [List.length_take] at hj; omega
        have hxi : L[i]'(by rw [HL.out]; exact hi) = y := by
          rw [← hx, List.getD_eq_getElem?_getD, List.getElem?_eq_getElem (by rw [HL.out]; exact hi)]; rfl
        exact List.pairwise_iff_getElem.1 HN.out.2.1 j i (by rw [HL.out]; omega) (by rw [HL.out]; exact hi) hji (hjy.trans hxi.symm)
      have hlook := fun j => HS.out.look (k := (x : Int)) ⟨by omega, by omega⟩ hnot j
      have hts : (L.take (i + 1)).map Int.ofNat = (L.take i).map Int.ofNat ++ [(x : Int)] := by
        have hl : i < L.length := by rw [HL.out]; exact hi
        rw [List.take_add_one, List.getElem?_eq_getElem hl]
        rw [List.getD_eq_getElem?_getD, List.getElem?_eq_getElem hl] at hx
        simp at hx
        simp [hx]
      have HT := qh hts
      obtain ⟨X, hX⟩ : ∃ y, la.getD x 0 = y := ⟨_, rfl⟩
      rw [hX] at k1
      by_cases hi0 : i = 0
      · subst hi0
        rw [Nat.add_zero] at k0
        have q4 : decide ((0 : Int) < ((0 : Nat) : Int)) = false := by decide
        clear hat hat' hcast hnot hts hX hx
        go_upto_region 7 with (fail)
        go_quiet (fail)
        go_wp2_with (at_mapUpdate; refine wpList_mapUpdate_own _ rfl _ _ _ _ rfl 3 4 int_key Tryz.underlying69 (plainElem Tryz.prog 4) w.heap.size 0 D rfl HS.out.own (by decide) (.int .i64 (x : Int)) (.bool true) (.int .i64 (x : Int)) rfl rfl (keyOf_int_mk Tryz.underlying3 (lit_wf ⟨by omega, by omega⟩)) (.lit (.bool true)) [] (plainElem_bool Tryz.underlying4 true) ?_; intro w5 ho5 hg5)
        have hb5 : RowKit.Below w.heap.size w w5 := Below.trans (bN hb) (grownB hg5 hb.size (fun j hj => by cases hj; exact Nat.le_refl _))
        exact ⟨⟨1, _, by simp, HI.out, hb5, by rw [HT.out]; exact HS.out.put ho5⟩, by have := HI.out; simp [intOf]; omega⟩
      · have q4 : decide ((0 : Int) < (i : Int)) = true := by rw [decide_eq_true_iff]; omega
        have q5 : decide (0 < i) = true := by rw [decide_eq_true_iff]; omega
        have k2 := hat' (i - 1) (by omega)
        rw [hcast (i - 1) (by omega)] at k2
        have h3 := HN.out.2.2.2 i (by omega) hi
        rw [hx, hX] at h3
        obtain ⟨y, hy⟩ : ∃ x, L.getD (i - 1) 0 = x := ⟨_, rfl⟩
        rw [hy] at k2 h3
        have hyn : y < n := by rw [← hy]; exact HN.out.2.2.1 _ (getD_in (d := 0) (by rw [HL.out]; omega))
        have k3 := hat y hyn
        obtain ⟨Y, hY⟩ : ∃ z, la.getD y 0 = z := ⟨_, rfl⟩
        rw [hY] at k3 h3
        have q6 : decide (Y < X) = false := by rw [decide_eq_false_iff_not]; omega
        obtain ⟨p, hp⟩ : ∃ p, i - 1 = p := ⟨_, rfl⟩
        rw [hp] at k2
        have m1 : IntKind.i64.wrap ((i : Int) - 1) = (p : Int) := by rw [smw (by omega)]; omega
        have hpn : p < n := by omega
        clear hat hat' hcast hnot hts hX hx hY hy h3 hp
        go_upto_region 7 with (fail)
        go_quiet (fail)
        go_wp2_with (at_mapUpdate; refine wpList_mapUpdate_own _ rfl _ _ _ _ rfl 3 4 int_key Tryz.underlying69 (plainElem Tryz.prog 4) w.heap.size i D rfl HS.out.own (by unfold maxLen; omega) (.int .i64 (x : Int)) (.bool true) (.int .i64 (x : Int)) rfl rfl (keyOf_int_mk Tryz.underlying3 (lit_wf ⟨by omega, by omega⟩)) (.lit (.bool true)) [] (plainElem_bool Tryz.underlying4 true) ?_; intro w5 ho5 hg5)
        have hb5 : RowKit.Below w.heap.size w w5 := Below.trans (bN hb) (grownB hg5 hb.size (fun j hj => by cases hj; exact Nat.le_refl _))
        exact ⟨⟨i + 1, _, by simp, HI.out, hb5, by rw [HT.out]; exact HS.out.put ho5⟩, by have := HI.out; simp [intOf]; omega⟩
    · have p0 : decide (i < n) = false := by simpa using hi
      clear hi hin
      go_wp2
      go_ret
      exact ⟨rfl, bi⟩
end
end Go.Proofs.YtnbnoacadhoimaaGreatDoor
namespace Go.Proofs.YtnbnoacadhoimaaGreatDoor
open Go Go.RowKit

section
variable {hs : List Hr} {c : Clim} {need : Int}
theorem bet_mono {i k n : Nat} (h : (hs.getD i (0, 0)).1 < (hs.getD k (0, 0)).1) : betN hs c i n ≤ betN hs c k n := by
  unfold betN
  rw [← List.countP_eq_length_filter, ← List.countP_eq_length_filter]
  refine List.countP_mono_left fun x _ hx => ?_
  unfold betB at hx ⊢
  rw [Bool.and_eq_true] at hx ⊢
  refine ⟨hx.1, ?_⟩
  have h2 := hx.2
  rw [Bool.or_eq_true] at h2 ⊢
  refine .inl ?_
  rw [decide_eq_true_iff]
  rcases h2 with h2 | h2
  · rw [decide_eq_true_iff] at h2; omega
  · rw [Bool.and_eq_true, decide_eq_true_iff] at h2; omega
theorem runL_mem {n x : Nat} : x ∈ runL hs c need n ↔ x < n ∧ suitB (hs.getD x (0, 0)) c = true ∧ (betN hs c x hs.length : Int) < need := by
  unfold runL
  rw [List.mem_filter, List.mem_range, Bool.and_eq_true, decide_eq_true_iff]
theorem no_colder {i k : Nat} (hi : i < hs.length) (hk : k ∈ runL hs c need hs.length) (hn : i ∉ runL hs c need hs.length) (hs' : suitB (hs.getD i (0, 0)) c = true) : ¬ (hs.getD i (0, 0)).1 < (hs.getD k (0, 0)).1 := by
  intro h
  have h1 := bet_mono (c := c) (n := hs.length) h
  have h2 := (runL_mem.1 hk).2.2
  exact hn (runL_mem.2 ⟨hi, hs', by omega⟩)
theorem runL_asc (n : Nat) : (runL hs c need n).Pairwise (· < ·) := List.pairwise_lt_range.filter _
theorem run_more (n : Nat) : (runL hs c (need + 1) n).filter (fun k => decide (k ∈ runL hs c need n)) = runL hs c need n := by
  have h1 : (runL hs c (need + 1) n).filter (fun k => decide (k ∈ runL hs c need n)) = (List.range n).filter (fun k => decide (k ∈ runL hs c need n)) := by
    rw [show runL hs c (need + 1) n = (List.range n).filter _ from rfl, List.filter_filter]
    refine List.filter_congr fun x hx => ?_
    by_cases q : x ∈ runL hs c need n
    · obtain ⟨q1, q2, q3⟩ := runL_mem.1 q
      rw [decide_eq_true q, q2, decide_eq_true (show (betN hs c x hs.length : Int) < need + 1 by omega)]
      rfl
    · rw [decide_eq_false q]; rfl
  rw [h1]
  conv => rhs; rw [runL]
  refine List.filter_congr fun x hx => ?_
  rw [Bool.eq_iff_iff, decide_eq_true_iff, runL_mem, Bool.and_eq_true, decide_eq_true_iff, List.mem_range] at *
  exact ⟨fun q => q.2, fun q => ⟨hx, q⟩⟩
/-- The hours that suit, one after another, ahead of the hour i. -/
def runN (hs : List Hr) (c : Clim) : Nat → Nat
  | 0 => 0
  | i + 1 => if suitB (hs.getD i (0, 0)) c then runN hs c i + 1 else 0
theorem runN_le (hs : List Hr) (c : Clim) (i : Nat) : runN hs c i ≤ i := by
  induction i with
  | zero => exact Nat.le_refl _
  | succ i ih => unfold runN; split <;> omega
theorem runB_iff {i m : Nat} (h : i + m ≤ hs.length) : runB hs c i m = true ↔ ∀ k, k < m → suitB (hs.getD (i + k) (0, 0)) c = true := by
  unfold runB
  rw [List.all_eq_true]
  constructor
  · intro H k hk
    refine H _ ?_
    rw [List.mem_iff_getElem]
    refine ⟨k, by rw [List.length_take, List.length_drop]; omega, ?_⟩
    rw [List.getElem_take, List.getElem_drop, List.getD_eq_getElem?_getD, List.getElem?_eq_getElem (by omega)]
    rfl
  · intro H x hx
    obtain ⟨k, hk, rfl⟩ := List.mem_iff_getElem.1 hx
    rw [List.length_take, List.length_drop] at hk
    have := H k (by omega)
    rw [List.getD_eq_getElem?_getD, List.getElem?_eq_getElem (by omega)] at this
    rw [List.getElem_take, List.getElem_drop]
    exact this
theorem runN_iff : ∀ {i m : Nat}, m ≤ i → ((∀ k, k < m → suitB (hs.getD (i - m + k) (0, 0)) c = true) ↔ m ≤ runN hs c i) := by
  intro i
  induction i with
  | zero =>
    intro m hm
    obtain rfl : m = 0 := by omega
    exact ⟨fun _ => Nat.zero_le _, fun _ k hk => by omega⟩
  | succ i ih =>
    intro m hm
    cases m with
    | zero => exact ⟨fun _ => Nat.zero_le _, fun _ k hk => by omega⟩
    | succ m =>
      have h1 := ih (m := m) (by omega)
      rw [show i + 1 - (m + 1) = i - m by omega]
      unfold runN
      constructor
      · intro H
        have h2 := H m (by omega)
        rw [show i - m + m = i by omega] at h2
        rw [h2, if_pos rfl]
        have := h1.1 fun k hk => H k (by omega)
        omega
      · intro H k hk
        cases hq : suitB (hs.getD i (0, 0)) c with
        | false => rw [hq, if_neg (by decide)] at H; omega
        | true =>
          rw [hq, if_pos rfl] at H
          rcases Nat.lt_or_ge k m with q | q
          · exact h1.2 (by omega) k q
          · rw [show i - m + k = i by omega]; exact hq
theorem runB_runN {i m : Nat} (h : i + m ≤ hs.length) : runB hs c i m = decide (m ≤ runN hs c (i + m)) := by
  rw [Bool.eq_iff_iff, decide_eq_true_iff, runB_iff h, ← runN_iff (by omega), show i + m - m = i by omega]
theorem winL_some {m j : Nat} (hj : j + m ≤ hs.length) (hb : runB hs c j m = true) : ∀ f i, i ≤ j → j < i + f → (∀ k, i ≤ k → k < j → runB hs c k m = false) → winL hs c m f i = some j := by
  intro f
  induction f with
  | zero => intro i h1 h2; omega
  | succ f ih =>
    intro i h1 h2 H
    unfold winL
    rw [if_pos (by omega)]
    by_cases e : i = j
    · subst e
      rw [if_pos hb]
    · rw [H i (Nat.le_refl _) (by omega), if_neg (by decide)]
      exact ih (i + 1) (by omega) (by omega) fun k h3 h4 => H k (by omega) h4
theorem winL_none {m : Nat} : ∀ f i, (∀ k, i ≤ k → k + m ≤ hs.length → runB hs c k m = false) → winL hs c m f i = none := by
  intro f
  induction f with
  | zero => intro i _; rfl
  | succ f ih =>
    intro i H
    unfold winL
    split
    · rename_i q
      rw [H i (Nat.le_refl _) q, if_neg (by decide)]
      exact ih (i + 1) fun k h3 h4 => H k (by omega) h4
    · rfl
/-- The first row of m hours ends ahead of the hour i + 1. -/
theorem row_some {i m : Nat} (hi : i < hs.length) (hm : 1 ≤ m) (h : runN hs c (i + 1) = m) (H : ∀ j, j ≤ i → runN hs c j < m) : winL hs c m (hs.length + 1) 0 = some (i + 1 - m) := by
  have hle := runN_le hs c (i + 1)
  refine winL_some (by omega) ?_ _ _ (Nat.zero_le _) (by omega) ?_
  · rw [runB_runN (by omega), show i + 1 - m + m = i + 1 by omega, decide_eq_true_iff]; omega
  · intro k _ hk
    rw [runB_runN (by omega), decide_eq_false_iff_not]
    have := H (k + m) (by omega)
    omega
theorem row_none {m : Nat} (H : ∀ j, j ≤ hs.length → runN hs c j < m) : winL hs c m (hs.length + 1) 0 = none := by
  refine winL_none _ _ fun k _ hk => ?_
  rw [runB_runN hk, decide_eq_false_iff_not]
  have := H (k + m) hk
  omega
theorem mem_cast {L : List Nat} {x : Nat} : ((x : Int) ∈ L.map Int.ofNat) ↔ x ∈ L := by
  rw [List.mem_map]
  constructor
  · rintro ⟨y, hy, e⟩
    have : (y : Int) = (x : Int) := e
    obtain rfl : y = x := by omega
    exact hy
  · intro h; exact ⟨x, h, rfl⟩
theorem castD {L : List Nat} {j : Nat} (h : j < L.length) : (L.map Int.ofNat).getD j 0 = ((L.getD j 0 : Nat) : Int) := by
  simp [List.getD_eq_getElem?_getD, h]
theorem takeD {L : List Nat} {j : Nat} (h : j < L.length) : (L.take (j + 1)).map Int.ofNat = (L.take j).map Int.ofNat ++ [((L.getD j 0 : Nat) : Int)] := by
  rw [List.take_add_one, List.getElem?_eq_getElem h, List.getD_eq_getElem?_getD, List.getElem?_eq_getElem h, List.map_append]
  rfl
theorem filtD {L : List Nat} {j : Nat} {p : Nat → Bool} (h : j < L.length) : ((L.take (j + 1)).filter p).length = ((L.take j).filter p).length + (if p (L.getD j 0) then 1 else 0) := by
  rw [List.take_add_one, List.getElem?_eq_getElem h, List.getD_eq_getElem?_getD, List.getElem?_eq_getElem h, Option.toList, List.filter_append, List.length_append, Option.getD_some, List.filter_cons]
  split <;> simp
theorem few_len (hf : fewB hs c need = false) : need ≤ ((upSuit hs c hs.length).length : Int) := by
  unfold fewB at hf
  rw [decide_eq_false_iff_not] at hf
  omega
theorem runL_need (h1 : 1 ≤ need) (hf : fewB hs c need = false) : ((runL hs c need hs.length).length : Int) = need := by
  have h2 := few_len hf
  have h3 := upSuit_len' hs c
  obtain ⟨m, rfl⟩ : ∃ m : Nat, need = (m : Int) := ⟨need.toNat, by omega⟩
  rw [runL_len (m := hs.length - 1) (by omega) (by omega)]
theorem hour_of (h : hoursE hs = 0) {j : Nat} (hj : j < hs.length) (hc : climE c = 0) : suitsE (hs.getD j (0, 0)) c = 0 := by
  unfold hoursE at h
  split at h
  · cases h
  · split at h
    · cases h
    · rename_i _ q
      rw [Bool.not_eq_true, List.any_eq_false] at q
      have := q _ (getD_in (d := ((0 : Int), (0 : Int))) hj)
      unfold suitsE
      rw [hc]
      cases hq : hourB (hs.getD j (0, 0)) with
      | true => rfl
      | false => rw [hq] at this; exact absurd rfl this
theorem suit_runN (i : Nat) : runN hs c i ≤ (upSuit hs c i).length := by
  induction i with
  | zero => exact Nat.zero_le _
  | succ i ih =>
    unfold runN
    split
    · rename_i q
      rw [upSuit_hit q, List.length_append]
      exact Nat.succ_le_succ ih
    · exact Nat.zero_le _
theorem upSuit_mono {i j : Nat} (h : i ≤ j) : (upSuit hs c i).length ≤ (upSuit hs c j).length := by
  induction h with
  | refl => exact Nat.le_refl _
  | step _ ih =>
    refine Nat.le_trans ih ?_
    unfold upSuit
    rw [List.range_succ, List.filter_append, List.length_append]
    exact Nat.le_add_right _ _
/-- With too few hours that suit there is no row of them. -/
theorem win_few (h1 : 1 ≤ need) (hf : fewB hs c need = true) : winO hs c need = none := by
  unfold winO
  refine winL_none _ _ fun k _ hk => ?_
  rw [runB_runN hk, decide_eq_false_iff_not]
  have h2 := suit_runN (hs := hs) (c := c) (k + need.toNat)
  have h3 := upSuit_mono (hs := hs) (c := c) hk
  unfold fewB at hf
  rw [decide_eq_true_iff] at hf
  omega
end

section
variable {w : World} {A : Option Addr} {n cap : Nat} {hs : List Hr} {c : Clim}
theorem row_ok {m : Nat} {a k : Int} {O : Option Nat} (h : Hv w A n hs) (hn : n ≤ 1000) (h1 : 1 ≤ m) (hm : m ≤ 1000) (hO : winL hs c m (n + 1) 0 = O) (hk : (if O.isSome then (0 : Int) else 7) = k) (ha : ((O.getD 0 : Nat) : Int) = a) : Calls Tryz.prog 33 #[.slice A n cap, clv c, .int .i64 a, .int .i64 k, .int .i64 (m : Int)] w fun e w' => e = .returned (.bool true) ∧ Below w.heap.size w w' := by
  have H := qh h
  have HL := qh h.len
  have HM := qh (And.intro hn (And.intro h1 (And.intro hm (And.intro hO (And.intro hk ha)))))
  clear h hn h1 hm hO hk ha
  go_enter Tryz.func33, Tryz.ntmps33
  go_wp2
  obtain ⟨V, hV⟩ : ∃ V, w.alloc (.cells #[.int .i64 c.c, .int .i64 c.m, .int .i64 c.d, .int .i64 c.p] 50) = V := ⟨_, rfl⟩
  have bV : Below w.heap.size w V := by rw [← hV]; exact bi
  have u2 : V.cell? ⟨w.heap.size, 0, none⟩ = some (.int .i64 c.c) := by rw [← hV]; simp [go_sem]
  have u3 : V.cell? ⟨w.heap.size, 1, none⟩ = some (.int .i64 c.m) := by rw [← hV]; simp [go_sem]
  have u4 : V.cell? ⟨w.heap.size, 2, none⟩ = some (.int .i64 c.d) := by rw [← hV]; simp [go_sem]
  have u5 : V.cell? ⟨w.heap.size, 3, none⟩ = some (.int .i64 c.p) := by rw [← hV]; simp [go_sem]
  have y1 : w.heap.size < V.heap.size := by rw [← hV]; simp
  rw [hV]
  clear hV
  replace H := qh (H.out.below bV)
  go_loopw [11, 16] (fun r u wr => ∃ (i : Nat), r = .int .i64 (runN hs c i : Int) ∧ u = .int .i64 (i : Int) ∧ i ≤ n ∧ Below V.heap.size V wr ∧ ∀ j, j ≤ i → runN hs c j < m) (fun _ u _ => n - (intOf u).toNat)
  case atStart => exact ⟨0, rfl, rfl, Nat.zero_le _, Below.refl _ _, fun j hj => by
    obtain rfl : j = 0 := Nat.le_zero.1 hj
    exact HM.out.2.1⟩
  case round =>
    obtain ⟨i, rfl, rfl, hin, hb, hlow⟩ := hrel
    have _ := bm hb
    have hm := HM.out
    have hl := HL.out
    by_cases hi : i < n
    · have p0 : decide (i < n) = true := by simpa using hi
      obtain ⟨b, o, rfl, hbl, hat⟩ := (H.out.below hb).at_ (by omega)
      obtain ⟨k0, k1⟩ := hat i (by omega)
      obtain ⟨⟨t, u⟩, hx⟩ : ∃ x, hs.getD i (0, 0) = x := ⟨_, rfl⟩
      rw [hx] at k0 k1
      dsimp only at k0 k1
      have c2 := cell_on hb u2
      have c3 := cell_on hb u3
      have c4 := cell_on hb u4
      have c5 := cell_on hb u5
      have y2 := Nat.lt_of_lt_of_le y1 hb.size
      obtain ⟨f, hf⟩ : ∃ f, suitB (t, u) c = f := ⟨_, rfl⟩
      have hr : runN hs c (i + 1) = if f then runN hs c i + 1 else 0 := by rw [runN, hx, hf]
      have hle := runN_le hs c i
      obtain ⟨r, hrr⟩ : ∃ r, runN hs c i = r := ⟨_, rfl⟩
      rw [hrr] at hr hle ⊢
      have e1 : IntKind.i64.wrap ((r : Int) + 1) = ((r + 1 : Nat) : Int) := by rw [smw (by omega)]; omega
      have ei : IntKind.i64.wrap ((i : Int) + 1) = ((i + 1 : Nat) : Int) := by rw [smw (by omega)]; omega
      have HF := qh hf
      have HR := qh (And.intro hr (And.intro hlow (And.intro hi hrr)))
      have zb := hbl
      clear hf hr hlow hx hat hm hl hin hle hrr
      cases f with
      | true =>
        have hr := HR.out.1
        rw [if_pos rfl] at hr
        have hm := HM.out
        have hl := HL.out
        have hi := HR.out.2.2.1
        by_cases hq : r + 1 = m
        · have q1 : decide ((r : Int) + 1 = (m : Int)) = true := by rw [decide_eq_true_iff]; omega
          have hw := row_some (c := c) (by omega : i < hs.length) hm.2.1 (hr.trans hq) HR.out.2.1
          rw [hl, hm.2.2.2.1] at hw
          obtain ⟨hk, ha⟩ := hm.2.2.2.2
          rw [hw] at hk ha
          obtain rfl : (0 : Int) = k := hk
          have ha : ((i + 1 - m : Nat) : Int) = a := ha
          have hmi : m ≤ i + 1 := by have := runN_le hs c (i + 1); omega
          have e2 : IntKind.i64.wrap (((i + 1 : Nat) : Int) - (m : Int)) = a := by rw [smw (by omega)]; omega
          have e3 : IntKind.i64.wrap ((i : Int) + 1 - (m : Int)) = a := by rw [smw (by omega)]; omega
          have q2 : (((r + 1 : Nat) : Int) == (m : Int)) = true := by rw [beq_iff_eq]; omega
          clear ha hw hmi hr hm hl hi hq
          go_wp2_with (go_at_call 29; (with_reducible refine mo1 w (rsuits_ok HF.out) (by go_size) fun w5 hb5 hc5 hf5 hz5_0 _ => ?_))
          go_ret
          exact ⟨rfl, bst bV (below_step hb bi)⟩
        · have q2 : (((r + 1 : Nat) : Int) == (m : Int)) = false := by rw [beq_eq_false_iff_ne]; omega
          have hlt : r + 1 < m := by have := HR.out.2.1 i (Nat.le_refl _); rw [HR.out.2.2.2] at this; omega
          have HLT := qh (And.intro hr hlt)
          clear hr hm hl hi hq hlt
          go_wp2_with (go_at_call 29; (with_reducible refine mo1 w (rsuits_ok HF.out) (by go_size) fun w5 hb5 hc5 hf5 hz5_0 _ => ?_))
          have hi := HR.out.2.2.1
          refine ⟨⟨i + 1, by rw [HLT.out.1]; simp, by simp, by omega, below_step hb bi, fun j hj => ?_⟩, by simp [intOf]; omega⟩
          rcases Nat.lt_or_ge j (i + 1) with q | q
          · exact HR.out.2.1 j (by omega)
          · obtain rfl : j = i + 1 := by omega
            rw [HLT.out.1]; exact HLT.out.2
      | false =>
        have hr := HR.out.1
        rw [if_neg (by decide)] at hr
        have hm1 := HM.out.2.1
        have q2 : ((0 : Int) == (m : Int)) = false := by rw [beq_eq_false_iff_ne]; omega
        have q3 : (0 == m) = false := by rw [beq_eq_false_iff_ne]; omega
        have HLT := qh hr
        clear hr hm1
        go_wp2_with (go_at_call 29; (with_reducible refine mo1 w (rsuits_ok HF.out) (by go_size) fun w5 hb5 hc5 hf5 hz5_0 _ => ?_))
        have hi := HR.out.2.2.1
        refine ⟨⟨i + 1, by rw [HLT.out]; rfl, by simp, by omega, below_step hb bi, fun j hj => ?_⟩, by simp [intOf]; omega⟩
        rcases Nat.lt_or_ge j (i + 1) with q | q
        · exact HR.out.2.1 j (by omega)
        · obtain rfl : j = i + 1 := by omega
          rw [HLT.out]; exact HM.out.2.1
    · have p0 : decide (i < n) = false := by simpa using hi
      obtain rfl : i = n := by omega
      have hw := row_none (c := c) (hs := hs) (m := m) fun j hj => hlow j (by omega)
      rw [hl, hm.2.2.2.1] at hw
      obtain ⟨hk, ha⟩ := hm.2.2.2.2
      rw [hw] at hk ha
      obtain rfl : (7 : Int) = k := hk
      obtain rfl : (0 : Int) = a := ha
      clear hw hm hl hi hlow hin
      go_wp2
      go_ret
      exact ⟨rfl, bst bV bi⟩
end
end Go.Proofs.YtnbnoacadhoimaaGreatDoor
namespace Go.Proofs.YtnbnoacadhoimaaGreatDoor
open Go Go.RowKit Go.Sort Go.Maps

/-- The law looks at the hours. -/
def lookB (hs : List Hr) (c : Clim) (need : Int) : Bool := decide (hs.length ≤ 24) && decide (hoursE hs = 0) && decide (climE c = 0) && decide (1 ≤ need) && decide (need ≤ 24)
theorem SetI.look0 {w : World} {b n : Nat} {D : DataW Unit} {S : List Int} (h : SetI w b n D S) {k : Int} (hk : R64 k) {r : Bool} (hr : decide (k ∈ S) = r) : (Instr.lookup 69 (.map (some b)) (.int .i64 k) false).run Tryz.prog w = .ok (.bool r) w := h.look hk hr 0
section
variable {w : World} {A : Option Addr} {n cap : Nat} {hs : List Hr} {c : Clim} {need : Int}
theorem fans_out (hE : Env6 w) (h : Hv w A n hs) (hl : lookB hs c need = false) :
    Calls Tryz.prog 6 #[.slice A n cap, clv c, .int .i64 need] w fun e w' => e = .returned (.bool true) ∧ Below w.heap.size w w' := by
  have HA := qh (fun W (hb : Below w.heap.size w W) => hE.awake hb)
  have hlen := h.len
  unfold lookB at hl
  obtain ⟨e1, he1⟩ : ∃ k, hoursE hs = k := ⟨_, rfl⟩
  obtain ⟨e2, he2⟩ : ∃ k, climE c = k := ⟨_, rfl⟩
  have HJ := qh (fun (hn : n ≤ 24) W (hb : Below w.heap.size w W) => rhours_ok (cap := cap) (h.below hb) (by omega) he1)
  have HCL := qh (fun (W : World) => rclimate_ok (w := W) he2)
  rw [hlen, he1, he2] at hl
  clear hE h he1 he2 hlen
  go_enter Tryz.func6, Tryz.ntmps6
  go_upto_region 1 with (fail)
  have BX := Blk.new w 50 #[.int .i64 c.c, .int .i64 c.m, .int .i64 c.d, .int .i64 c.p]
  have d0 := BX.cell 0
  have d1 := BX.cell 1
  have d2 := BX.cell 2
  have d3 := BX.cell 3
  have zX := BX.lt
  simp only [List.getElem?_toArray, List.getElem?_cons_zero, List.getElem?_cons_succ] at d0 d1 d2 d3
  have bV : Below w.heap.size w (w.alloc (.cells #[.int .i64 c.c, .int .i64 c.m, .int .i64 c.d, .int .i64 c.p] 50)) := bi
  obtain ⟨V, hV⟩ : ∃ V, w.alloc (.cells #[.int .i64 c.c, .int .i64 c.m, .int .i64 c.d, .int .i64 c.p] 50) = V := ⟨_, rfl⟩
  rw [hV] at d0 d1 d2 d3 zX bV ⊢
  clear hV BX
  by_cases hn : n ≤ 24
  · have p1 : decide ((24 : Int) < (n : Int)) = false := by rw [decide_eq_false_iff_not]; omega
    replace HJ := qh (HJ.out hn)
    rw [decide_eq_true hn, Bool.true_and] at hl
    by_cases h1 : e1 = 0
    · subst h1
      rw [decide_eq_true rfl, Bool.true_and] at hl
      by_cases h2 : e2 = 0
      · subst h2
        rw [decide_eq_true rfl, Bool.true_and] at hl
        by_cases h3 : 1 ≤ need
        · have p2 : decide (need < 1) = false := by rw [decide_eq_false_iff_not]; omega
          have p3 : decide (24 < need) = true := by rw [decide_eq_true h3, Bool.true_and, decide_eq_false_iff_not] at hl; rw [decide_eq_true_iff]; omega
          clear hl hn h3
          go_wp2_with (first | (go_at_call 24; (with_reducible refine mo0 (HJ.out _ (below_step bV bi)) fun w1 hb1 hc1 hf1 _ => ?_)) | (go_at_call 25; (with_reducible refine mo0 (HCL.out _) fun w2 hb2 hc2 hf2 _ => ?_)) | (go_at_call 8; (with_reducible refine mo0 (HA.out _ (below_step bV bi)) fun w3 hb3 hc3 hf3 _ => ?_)))
          go_ret
          exact ⟨rfl, below_step bV bi⟩
        · have p2 : decide (need < 1) = true := by rw [decide_eq_true_iff]; omega
          clear hl hn h3
          go_wp2_with (first | (go_at_call 24; (with_reducible refine mo0 (HJ.out _ (below_step bV bi)) fun w1 hb1 hc1 hf1 _ => ?_)) | (go_at_call 25; (with_reducible refine mo0 (HCL.out _) fun w2 hb2 hc2 hf2 _ => ?_)) | (go_at_call 8; (with_reducible refine mo0 (HA.out _ (below_step bV bi)) fun w3 hb3 hc3 hf3 _ => ?_)))
          go_ret
          exact ⟨rfl, below_step bV bi⟩
      · have p2 : (e2 != 0) = true := by rw [bne_iff_ne]; exact h2
        clear hl hn h2
        go_wp2_with (first | (go_at_call 24; (with_reducible refine mo0 (HJ.out _ (below_step bV bi)) fun w1 hb1 hc1 hf1 _ => ?_)) | (go_at_call 25; (with_reducible refine mo0 (HCL.out _) fun w2 hb2 hc2 hf2 _ => ?_)) | (go_at_call 8; (with_reducible refine mo0 (HA.out _ (below_step bV bi)) fun w3 hb3 hc3 hf3 _ => ?_)))
        go_ret
        exact ⟨rfl, below_step bV bi⟩
    · have p2 : (e1 != 0) = true := by rw [bne_iff_ne]; exact h1
      clear hl hn h1
      go_wp2_with (first | (go_at_call 24; (with_reducible refine mo0 (HJ.out _ (below_step bV bi)) fun w1 hb1 hc1 hf1 _ => ?_)) | (go_at_call 8; (with_reducible refine mo0 (HA.out _ (below_step bV bi)) fun w3 hb3 hc3 hf3 _ => ?_)))
      go_ret
      exact ⟨rfl, below_step bV bi⟩
  · have p1 : decide ((24 : Int) < (n : Int)) = true := by rw [decide_eq_true_iff]; omega
    clear hl hn
    go_wp2_with (go_at_call 8; (with_reducible refine mo0 (HA.out _ (below_step bV bi)) fun w3 hb3 hc3 hf3 _ => ?_))
    go_ret
    exact ⟨rfl, below_step bV bi⟩
set_option maxHeartbeats 16000000 in
theorem fans_main (hE : Env6 w) (h : Hv w A n hs) (hnc : n ≤ cap) (hl : lookB hs c need = true) :
    Calls Tryz.prog 6 #[.slice A n cap, clv c, .int .i64 need] w fun e w' => e = .returned (.bool true) ∧ Below w.heap.size w w' := by
  unfold lookB at hl
  simp only [Bool.and_eq_true, decide_eq_true_iff] at hl
  obtain ⟨⟨⟨⟨l1, l2⟩, l3⟩, l4⟩, l5⟩ := hl
  have hlen := h.len
  rw [hlen] at l1
  have h0 : fnz [hoursE hs, climE c] = 0 := by rw [l2, l3]; rfl
  have HA := qh (fun W (hb : Below w.heap.size w W) => hE.awake hb)
  have HJ := qh (fun W (hb : Below w.heap.size w W) => rhours_ok (cap := cap) (h.below hb) (by omega) l2)
  have HCL := qh (fun (W : World) => rclimate_ok (w := W) l3)
  have hfn : ∀ z : Int, fansE hs c z = 0 → n ≤ 39 := fun _ _ => by omega
  obtain ⟨k2, hk2⟩ : ∃ k, fansK hs c need = k := ⟨_, rfl⟩
  obtain ⟨L2, hL2⟩ : ∃ k, fansR hs c need = k := ⟨_, rfl⟩
  obtain ⟨k3, hk3⟩ : ∃ k, winK hs c need = k := ⟨_, rfl⟩
  obtain ⟨a3, ha3⟩ : ∃ k, winV hs c need = k := ⟨_, rfl⟩
  have HB := qh (fun W (hb : Below w.heap.size w W) => pfans_fine (cap := cap) (h.below hb) (by omega) (hfn need) hk2 hL2)
  have HC := qh (fun W (hb : Below w.heap.size w W) => window_any (cap := cap) (h.below hb) (by omega) (fun _ => by omega) hnc hk3 ha3)
  have HG := qh (fun (hq : fewB hs c (need + 1) = false) W (hb : Below w.heap.size w W) => by
    obtain ⟨j1, j2⟩ := wk_fans h0 (show 0 ≤ need + 1 by omega) hq
    exact pfans_fine (cap := cap) (h.below hb) (by omega) (hfn (need + 1)) j1 j2)
  have HR : Hid (∀ W, Below w.heap.size w W → Calls Tryz.prog 33 #[.slice A n cap, clv c, .int .i64 a3, .int .i64 k3, .int .i64 need] W fun e w' => e = .returned (.bool true) ∧ Below W.heap.size W w') := qh (fun W hb => by
    obtain ⟨m, rfl⟩ : ∃ m : Nat, need = (m : Int) := ⟨need.toNat, by omega⟩
    have hw0 : winE hs c (m : Int) = 0 := by unfold winE; rw [fnz_good h0, if_neg (by omega)]
    refine row_ok (cap := cap) (O := winO hs c (m : Int)) (h.below hb) (by omega) (by omega) (by omega) ?_ ?_ ?_
    · unfold winO; rw [Int.toNat_natCast, hlen]
    · rw [← hk3, winK, if_pos hw0]
    · rw [← ha3, winV, if_pos hw0])
  have HS : Hid (∀ j, j < n → suitsE (hs.getD j (0, 0)) c = 0) := qh (fun j hj => hour_of l2 (by omega) l3)
  have H := qh h
  have HK := qh (And.intro hk2 (And.intro hL2 (And.intro hk3 (And.intro ha3 (And.intro h0 (And.intro l4 l5))))))
  have HL := qh hlen
  have HN := qh l1
  have p1 : decide ((24 : Int) < (n : Int)) = false := by rw [decide_eq_false_iff_not]; omega
  have p2 : decide (need < 1) = false := by rw [decide_eq_false_iff_not]; omega
  have p3 : decide (24 < need) = false := by rw [decide_eq_false_iff_not]; omega
  clear hE h hnc l1 l2 l3 l4 l5 hlen h0 hfn hk2 hL2 hk3 ha3
  go_enter Tryz.func6, Tryz.ntmps6
  go_upto_region 1 with (fail)
  have BX := Blk.new w 50 #[.int .i64 c.c, .int .i64 c.m, .int .i64 c.d, .int .i64 c.p]
  have d0 := BX.cell 0
  have d1 := BX.cell 1
  have d2 := BX.cell 2
  have d3 := BX.cell 3
  have zX := BX.lt
  simp only [List.getElem?_toArray, List.getElem?_cons_zero, List.getElem?_cons_succ] at d0 d1 d2 d3
  have bV : Below w.heap.size w (w.alloc (.cells #[.int .i64 c.c, .int .i64 c.m, .int .i64 c.d, .int .i64 c.p] 50)) := bi
  obtain ⟨V, hV⟩ : ∃ V, w.alloc (.cells #[.int .i64 c.c, .int .i64 c.m, .int .i64 c.d, .int .i64 c.p] 50) = V := ⟨_, rfl⟩
  rw [hV] at d0 d1 d2 d3 zX bV ⊢
  clear hV BX
  go_upto_region 3 with (first | (go_at_call 24; (with_reducible refine mo0 (HJ.out _ (below_step bV bi)) fun w1 hb1 hc1 hf1 _ => ?_)) | (go_at_call 25; (with_reducible refine mo0 (HCL.out _) fun w2 hb2 hc2 hf2 _ => ?_)))
  replace d0 := cell_on hb1 d0
  replace d1 := cell_on hb1 d1
  replace d2 := cell_on hb1 d2
  replace d3 := cell_on hb1 d3
  replace zX := Nat.lt_of_lt_of_le zX hb1.size
  replace bV := below_step bV hb1
  replace d0 := cell_on hb2 d0
  replace d1 := cell_on hb2 d1
  replace d2 := cell_on hb2 d2
  replace d3 := cell_on hb2 d3
  replace zX := Nat.lt_of_lt_of_le zX hb2.size
  replace bV := below_step bV hb2
  clear hc1 hc2 hf1 hf2 hb1 hb2 p1 p2 p3 HJ HCL
  go_wp2_with (go_at_call 22; (with_reducible refine (HB.out _ (below_step bV bi)).mono ?_); rintro e3 w3 ⟨A3, n3, c3, rfl, hr3, hb3⟩; obtain ⟨hc3, hf3, _⟩ := bc0 hb3)
  replace d0 := cell_on hb3 d0
  replace d1 := cell_on hb3 d1
  replace d2 := cell_on hb3 d2
  replace d3 := cell_on hb3 d3
  replace zX := Nat.lt_of_lt_of_le zX hb3.size
  replace bV := below_step bV hb3
  clear hc3 hf3 HB
  have HR3 := qh hr3
  clear hr3
  go_loopw [9, 61] (fun v u wr => ∃ (i q : Nat), v = .int .i64 (q : Int) ∧ u = .int .i64 (i : Int) ∧ i ≤ n ∧ Below w3.heap.size w3 wr ∧ q = (upSuit hs c i).length) (fun _ u _ => n - (intOf u).toNat)
  case atStart => exact ⟨0, 0, rfl, rfl, Nat.zero_le _, Below.refl _ _, rfl⟩
  case round =>
    obtain ⟨i, q, rfl, rfl, hin, hb, hq⟩ := hrel
    have _ := bm hb
    have hn := HN.out
    have hl := HL.out
    by_cases hi : i < n
    · have p0 : decide (i < n) = true := by simpa using hi
      obtain ⟨b, o, rfl, hbl, hat⟩ := (H.out.below (below_step bV hb)).at_ (by omega)
      obtain ⟨k0, k1⟩ := hat i (by omega)
      obtain ⟨⟨t, u⟩, hx⟩ : ∃ x, hs.getD i (0, 0) = x := ⟨_, rfl⟩
      rw [hx] at k0 k1
      dsimp only at k0 k1
      have g0 := cell_on hb d0
      have g1 := cell_on hb d1
      have g2 := cell_on hb d2
      have g3 := cell_on hb d3
      have zg := Nat.lt_of_lt_of_le zX hb.size
      have ei : IntKind.i64.wrap ((i : Int) + 1) = ((i + 1 : Nat) : Int) := by rw [smw (by omega)]; omega
      obtain ⟨f, hf⟩ : ∃ f, suitB (t, u) c = f := ⟨_, rfl⟩
      have hs0 := HS.out i hi
      rw [hx] at hs0
      have hq2 : q ≤ i := by rw [hq]; exact upSuit_len _ _ _
      have eq : IntKind.i64.wrap ((q : Int) + 1) = ((q + 1 : Nat) : Int) := by rw [smw (by omega)]; omega
      have HF := qh (And.intro hs0 (And.intro hf (And.intro hq (And.intro hx hi))))
      clear hat hs0 hf hq hx hin hq2 hl hn
      cases f with
      | true =>
        go_wp2_with (go_at_call 21; (with_reducible refine mo0 (suits_all (h := (t, u)) (c := c) HF.out.1 (show (decide ((0 : Int) = 0) && suitB (t, u) c) = true by simp [HF.out.2.1])) fun w4 hb4 hc4 hf4 _ => ?_))
        have hF := HF.out
        refine ⟨⟨i + 1, q + 1, by simp, by simp, by omega, below_step hb bi, ?_⟩, by simp [intOf]; omega⟩
        rw [upSuit_hit (by rw [hF.2.2.2.1]; exact hF.2.1), List.length_append, ← hF.2.2.1]; rfl
      | false =>
        go_wp2_with (go_at_call 21; (with_reducible refine mo0 (suits_all (h := (t, u)) (c := c) HF.out.1 (show (decide ((0 : Int) = 0) && suitB (t, u) c) = false by simp [HF.out.2.1])) fun w4 hb4 hc4 hf4 _ => ?_))
        have hF := HF.out
        refine ⟨⟨i + 1, q, by simp, by simp, by omega, below_step hb bi, ?_⟩, by simp [intOf]; omega⟩
        rw [upSuit_miss (by rw [hF.2.2.2.1]; exact hF.2.1), ← hF.2.2.1]
    · have p0 : decide (i < n) = false := by simpa using hi
      obtain rfl : n = i := by omega
      obtain ⟨hk2, hL2, hk3, ha3, h0, l4, l5⟩ := HK.out
      rw [← hl] at hq
      replace HR3 := qh (HR3.out.below hb)
      replace d0 := cell_on hb d0
      replace d1 := cell_on hb d1
      replace d2 := cell_on hb d2
      replace d3 := cell_on hb d3
      replace zX := Nat.lt_of_lt_of_le zX hb.size
      replace bV := below_step bV hb
      by_cases hf : (q : Int) < need
      · have hfb : fewB hs c need = true := by unfold fewB; rw [decide_eq_true_iff, ← hq]; exact hf
        have q1 : decide ((q : Int) < need) = true := by simpa using hf
        obtain ⟨j1, j2⟩ := wk_few h0 (by omega) hfb
        have hw := win_few l4 hfb
        have hw0 : winE hs c need = 0 := by unfold winE; rw [fnz_good h0, if_neg (by omega)]
        obtain rfl : (7 : Int) = k2 := j1.symm.trans hk2
        obtain rfl : [] = L2 := j2.symm.trans hL2
        obtain rfl : (7 : Int) = k3 := by rw [← hk3, winK, if_pos hw0, hw]; rfl
        obtain rfl : (0 : Int) = a3 := by rw [← ha3, winV, if_pos hw0, hw]; rfl
        obtain rfl : 0 = n3 := HR3.out.len
        clear hk2 hL2 hk3 ha3 h0 l4 l5 hq hf hfb j1 j2 hw hw0 hin hl hn hi HK
        go_wp2_with (first | (go_at_call 23; (with_reducible refine mo0 (HC.out _ (below_step bV bi)) fun w5 hb5 hc5 hf5 _ => ?_)) | (go_at_call 8; (with_reducible refine mo0 (HA.out _ (below_step bV bi)) fun w6 hb6 hc6 hf6 _ => ?_)))
        go_ret
        exact ⟨rfl, below_step bV bi⟩
      · have hfb : fewB hs c need = false := by unfold fewB; rw [decide_eq_false_iff_not, ← hq]; exact hf
        have q1 : decide ((q : Int) < need) = false := by simpa using hf
        obtain ⟨j1, j2⟩ := wk_fans h0 (by omega) hfb
        have hrl := runL_need l4 hfb
        obtain rfl : (0 : Int) = k2 := j1.symm.trans hk2
        have j2 : (runL hs c need hs.length).map Int.ofNat = L2 := j2.symm.trans hL2
        subst j2
        have hn3 : ((runL hs c need hs.length)).length = n3 := by have := HR3.out.len; rwa [List.length_map] at this
        obtain ⟨L, hL⟩ : ∃ L, runL hs c need hs.length = L := ⟨_, rfl⟩
        rw [hL] at hrl HR3 hn3
        have q2 : ((n3 : Int) != need) = false := by rw [bne_eq_false_iff_eq]; omega
        have HX : Hid (∀ j, j < n3 → L.getD j 0 < n ∧ suitB (hs.getD (L.getD j 0) (0, 0)) c = true) := qh (fun j hj => by
          have h1 := getD_in (d := 0) (show j < L.length by omega)
          rw [← hL] at h1 ⊢
          obtain ⟨h2, h3, _⟩ := runL_mem.1 h1
          exact ⟨by omega, h3⟩)
        have HAS : Hid (∀ j, 0 < j → j < n3 → L.getD (j - 1) 0 < L.getD j 0) := qh (fun j h1 h2 => by
          have := List.pairwise_iff_getElem.1 (runL_asc (hs := hs) (c := c) (need := need) hs.length)
          rw [hL] at this
          rw [List.getD_eq_getElem?_getD, List.getElem?_eq_getElem (by omega), List.getD_eq_getElem?_getD, List.getElem?_eq_getElem (by omega)]
          exact this (j - 1) j (by omega) (by omega) (by omega))
        have HCO : Hid (∀ i k, i < n → k < n3 → suitB (hs.getD i (0, 0)) c = true → decide (i ∈ L) = false → decide ((hs.getD i (0, 0)).1 < (hs.getD (L.getD k 0) (0, 0)).1) = false) := qh (fun i k h1 h2 h3 h4 => by
          rw [decide_eq_false_iff_not] at h4 ⊢
          have h5 := getD_in (d := 0) (show k < L.length by omega)
          rw [← hL] at h4 h5 ⊢
          exact no_colder (by omega) h5 h4 h3)
        have HMO : Hid ((runL hs c (need + 1) hs.length).filter (fun k => decide (k ∈ L)) = L) := qh (by rw [← hL]; exact run_more _)
        have HNX : Hid (need < (q : Int) → fewB hs c (need + 1) = false ∧ ((runL hs c (need + 1) hs.length).length : Int) = need + 1) := qh (fun h1 => by
          have h2 : fewB hs c (need + 1) = false := by unfold fewB; rw [decide_eq_false_iff_not, ← hq]; omega
          exact ⟨h2, runL_need (by omega) h2⟩)
        have HLL := qh (And.intro hn3 hrl)
        have HGX : Hid (∀ (j : Nat) (x : Nat), (runL hs c (need + 1) hs.length).getD j 0 = x → x ≤ 1000) := qh (fun j x hx => by
          by_cases hj : j < (runL hs c (need + 1) hs.length).length
          · have := (runL_mem.1 (getD_in (d := 0) hj)).1; omega
          · rw [List.getD_eq_getElem?_getD, List.getElem?_eq_none (by omega)] at hx; subst hx; exact Nat.zero_le _)
        have HQ := qh (And.intro l4 l5)
        have hmm := @run_makeMap Tryz.prog
        clear hk2 hL2 hk3 ha3 h0 l4 l5 hq hf hfb j1 hrl hL hn3 hin hl hn hi hb
        rename World => wq
        go_wp2
        go_loopw [116] (fun u wr => ∃ (j : Nat) (D : DataW Unit), u = .int .i64 (j : Int) ∧ j ≤ n3 ∧ RowKit.Below wq.heap.size wq wr ∧ SetI wr wq.heap.size j D ((L.take j).map Int.ofNat)) (fun u _ => n3 - (intOf u).toNat)
        case atStart => exact ⟨0, _, rfl, Nat.zero_le _, bi, SetI.made wq⟩
        case round =>
          obtain ⟨j, D, rfl, hjn, hb, hS⟩ := hrel
          have _ := bm hb
          have HSS := qh hS
          clear hS
          have hn := HN.out
          have hl := HL.out
          by_cases hj : j < n3
          · have p0 : decide (j < n3) = true := by simpa using hj
            have HJJ := qh hj
            have hn3 := HLL.out.1
            have htk := takeD (L := L) (j := j) (by omega)
            obtain ⟨b', o', rfl, hbl', hat'⟩ := (HR3.out.below hb).at_ (by omega)
            have f0 := hat' j hj
            rw [castD (by omega)] at f0
            obtain ⟨hxn, hxs⟩ := HX.out j hj
            obtain ⟨x, hx⟩ : ∃ x, L.getD j 0 = x := ⟨_, rfl⟩
            rw [hx] at f0 hxn hxs htk
            have HT := qh htk
            obtain ⟨b, o, rfl, hbl, hat⟩ := (H.out.below (below_step bV hb)).at_ (by omega)
            obtain ⟨k0, k1⟩ := hat x (by omega)
            obtain ⟨⟨t, u⟩, hy⟩ : ∃ y, hs.getD x (0, 0) = y := ⟨_, rfl⟩
            rw [hy] at k0 k1 hxs
            dsimp only at k0 k1
            have g0 := cell_on hb d0
            have g1 := cell_on hb d1
            have g2 := cell_on hb d2
            have g3 := cell_on hb d3
            have zg := Nat.lt_of_lt_of_le zX hb.size
            have q5 : decide ((x : Int) < 0) = false := by rw [decide_eq_false_iff_not]; omega
            have q6 : decide ((n : Int) ≤ (x : Int)) = false := by rw [decide_eq_false_iff_not]; omega
            have q7 : decide (n ≤ x) = false := by rw [decide_eq_false_iff_not]; omega
            have HF := qh hxs
            have HXN := qh (And.intro hxn hn)
            clear hat htk hy hxs hl hjn hn3 hn
            by_cases hj0 : j = 0
            · have q4 : decide ((0 : Int) < (j : Int)) = false := by rw [decide_eq_false_iff_not]; omega
              have q8 : decide (0 < j) = false := by rw [decide_eq_false_iff_not]; omega
              clear hat' hx hj0 hj
              go_upto_region 23 with (fail)
              refine wp_region_T (fun w' => Below wr.heap.size wr w') [] (by kernel_rfl) ?_
              refine tb 0 (.int .i64 (x : Int)) [] rfl (by kernel_rfl) pk rfl (by intros; go_simp) bq0 ?_
              simp only [ppq]
              refine tb 1 (.bool false) [] rfl (by kernel_rfl) pk rfl (by intros; go_simp) bq0 ?_
              simp only [ppq]
              refine tb 2 (.bool false) [] rfl (by kernel_rfl) pk rfl (by intros; go_simp) bq0 ?_
              simp only [ppq]
              refine tb 3 (.int .i64 (x : Int)) [] rfl (by kernel_rfl) pk rfl (by intros; go_simp) bq0 ?_
              simp only [ppq]
              refine tb 4 (.slice (some ⟨b, o, none⟩) n cap) [] rfl (by kernel_rfl) pk rfl (by intros; go_simp) bq0 ?_
              simp only [ppq]
              refine tb 5 (.int .i64 (n : Int)) [] rfl (by kernel_rfl) pk rfl (by intros; go_simp) bq0 ?_
              simp only [ppq]
              refine tb 6 (.bool false) [] rfl (by kernel_rfl) pk rfl (by intros; go_simp) bq0 ?_
              simp only [ppq]
              refine tb 7 (.bool false) [] rfl (by kernel_rfl) pk rfl (by intros; go_simp) bq0 ?_
              simp only [ppq]
              refine tb 8 (.bool false) [] rfl (by kernel_rfl) pk rfl (by intros; go_simp) bq0 ?_
              simp only [ppq]
              refine tb 9 (.int .i64 (j : Int)) [] rfl (by kernel_rfl) pk rfl (by intros; go_simp) bq0 ?_
              simp only [ppq]
              refine tb 10 (.bool false) [] rfl (by kernel_rfl) pk rfl (by intros; go_simp) bq0 ?_
              simp only [ppq]
              refine tb 11 (.bool false) [] rfl (by kernel_rfl) pk rfl (by intros; go_simp) bq0 ?_
              simp only [ppq]
              refine ts 12 [] rfl (by kernel_rfl) pk (by rfl) bq0 ?_
              simp only [ppq]
              refine ts 13 [] rfl (by kernel_rfl) pk (by rfl) bq0 ?_
              simp only [ppq]
              refine ts 14 [] rfl (by kernel_rfl) pk (by rfl) bq0 ?_
              simp only [ppq]
              refine ts 15 [] rfl (by kernel_rfl) pk (by rfl) bq0 ?_
              simp only [ppq]
              refine ts 16 [] rfl (by kernel_rfl) pk (by rfl) bq0 ?_
              simp only [ppq]
              refine ts 17 [] rfl (by kernel_rfl) pk (by rfl) bq0 ?_
              simp only [ppq]
              refine ts 18 [] rfl (by kernel_rfl) pk (by rfl) bq0 ?_
              simp only [ppq]
              refine tb 19 (.bool false) [] rfl (by kernel_rfl) pk rfl (by intros; go_simp) bq0 ?_
              simp only [ppq]
              refine tb 20 (.bool false) [] rfl (by kernel_rfl) pk rfl (by intros; go_simp) bq0 ?_
              simp only [ppq]
              refine tb 21 (.bool false) [] rfl (by kernel_rfl) pk rfl (by intros; go_simp) bq0 ?_
              simp only [ppq]
              refine tb 22 (.slice (some ⟨b, o, none⟩) n cap) [] rfl (by kernel_rfl) pk rfl (by intros; go_simp) bq0 ?_
              simp only [ppq]
              refine tb 23 (.int .i64 (x : Int)) [] rfl (by kernel_rfl) pk rfl (by intros; go_simp) bq0 ?_
              simp only [ppq]
              refine tb 24 (.pointer (some ⟨b, o + x * 2, none⟩)) [] rfl (by kernel_rfl) pk rfl (by intros; go_simp) bq0 ?_
              simp only [ppq]
              refine tb 25 (hrv (t, u)) [] rfl (by kernel_rfl) pk rfl (by intros; go_simp) bq0 ?_
              simp only [ppq]
              refine tb 26 (clv c) [] rfl (by kernel_rfl) pk rfl (by intros; go_simp) bq0 ?_
              simp only [ppq]
              refine rd1 27 (by kernel_rfl) rfl (fun K hK => ?_)
              go_simp
              go_wp2_with (go_at_call 29; (with_reducible refine mo0 (rsuits_ok (h := (t, u)) (c := c) HF.out) fun w5 hb5 hc5 hf5 _ => ?_))
              have sS5 := qh (bst bq0 hb5)
              refine hK.out _ _ (fun _ => sS5.out) ?_
              clear hK K
              refine rd1 28 (by kernel_rfl) rfl (fun K hK => ?_)
              go_simp
              refine hK.out _ _ (fun _ => bi) ?_
              clear hK K
              refine rd1 29 (by kernel_rfl) rfl (fun K hK => ?_)
              go_simp
              refine hK.out _ _ (fun _ => bi) ?_
              clear hK K
              refine wpAnyT_done (by kernel_rfl) ?_ _
              have b5 : RowKit.Below wr.heap.size wr w5 := bi
              have HS5 := qh (HSS.out.keep b5)
              have hxn := HXN.out
              have hjl := HJJ.out
              have hll := HLL.out
              have hqq := HQ.out
              go_wp2_with (at_mapUpdate; refine wpList_mapUpdate_own _ rfl _ _ _ _ rfl 3 4 int_key Tryz.underlying69 (plainElem Tryz.prog 4) wq.heap.size j D rfl HS5.out.own (by unfold maxLen; omega) (.int .i64 (x : Int)) (.bool true) (.int .i64 (x : Int)) rfl rfl (keyOf_int_mk Tryz.underlying3 (lit_wf ⟨by omega, by omega⟩)) (.lit (.bool true)) [] (plainElem_bool Tryz.underlying4 true) ?_; intro w6 ho6 hg6)
              have hbw := below_step hb b5
              have hb6 : RowKit.Below wq.heap.size wq w6 := Below.trans hbw (grownB hg6 hbw.size (fun j hj => by cases hj; exact Nat.le_refl _))
              exact ⟨⟨j + 1, _, by simp, HJJ.out, hb6, by rw [HT.out]; exact HS5.out.put ho6⟩, by have := HJJ.out; simp [intOf]; omega⟩
            · have q4 : decide ((0 : Int) < (j : Int)) = true := by rw [decide_eq_true_iff]; omega
              have q8 : decide (0 < j) = true := by rw [decide_eq_true_iff]; omega
              have hy := HAS.out j (by omega) hj
              have f1 := hat' (j - 1) (by omega)
              rw [castD (by have := HLL.out.1; omega)] at f1
              obtain ⟨y, hyy⟩ : ∃ x, L.getD (j - 1) 0 = x := ⟨_, rfl⟩
              rw [hyy] at f1 hy
              rw [hx] at hy
              have q9 : decide ((x : Int) ≤ (y : Int)) = false := by rw [decide_eq_false_iff_not]; omega
              have q10 : decide (x ≤ y) = false := by rw [decide_eq_false_iff_not]; omega
              obtain ⟨p, hp⟩ : ∃ p, j - 1 = p := ⟨_, rfl⟩
              rw [hp] at f1
              have m1 : IntKind.i64.wrap ((j : Int) - 1) = (p : Int) := by rw [smw (by have := HLL.out; have := HQ.out; omega)]; omega
              have hpn : p < n3 := by omega
              clear hat' hx hj0 hj hy hyy hp
              go_upto_region 23 with (fail)
              refine wp_region_T (fun w' => Below wr.heap.size wr w') [] (by kernel_rfl) ?_
              refine tb 0 (.int .i64 (x : Int)) [] rfl (by kernel_rfl) pk rfl (by intros; go_simp) bq0 ?_
              simp only [ppq]
              refine tb 1 (.bool false) [] rfl (by kernel_rfl) pk rfl (by intros; go_simp) bq0 ?_
              simp only [ppq]
              refine tb 2 (.bool false) [] rfl (by kernel_rfl) pk rfl (by intros; go_simp) bq0 ?_
              simp only [ppq]
              refine tb 3 (.int .i64 (x : Int)) [] rfl (by kernel_rfl) pk rfl (by intros; go_simp) bq0 ?_
              simp only [ppq]
              refine tb 4 (.slice (some ⟨b, o, none⟩) n cap) [] rfl (by kernel_rfl) pk rfl (by intros; go_simp) bq0 ?_
              simp only [ppq]
              refine tb 5 (.int .i64 (n : Int)) [] rfl (by kernel_rfl) pk rfl (by intros; go_simp) bq0 ?_
              simp only [ppq]
              refine tb 6 (.bool false) [] rfl (by kernel_rfl) pk rfl (by intros; go_simp) bq0 ?_
              simp only [ppq]
              refine tb 7 (.bool false) [] rfl (by kernel_rfl) pk rfl (by intros; go_simp) bq0 ?_
              simp only [ppq]
              refine tb 8 (.bool false) [] rfl (by kernel_rfl) pk rfl (by intros; go_simp) bq0 ?_
              simp only [ppq]
              refine tb 9 (.int .i64 (j : Int)) [] rfl (by kernel_rfl) pk rfl (by intros; go_simp) bq0 ?_
              simp only [ppq]
              refine tb 10 (.bool true) [] rfl (by kernel_rfl) pk rfl (by intros; go_simp) bq0 ?_
              simp only [ppq]
              refine tb 11 (.bool true) [] rfl (by kernel_rfl) pk rfl (by intros; go_simp) bq0 ?_
              simp only [ppq]
              refine tb 12 (.slice (some ⟨b', o', none⟩) n3 c3) [] rfl (by kernel_rfl) pk rfl (by intros; go_simp) bq0 ?_
              simp only [ppq]
              refine tb 13 (.int .i64 (j : Int)) [] rfl (by kernel_rfl) pk rfl (by intros; go_simp) bq0 ?_
              simp only [ppq]
              refine tb 14 (.int .i64 (p : Int)) [] rfl (by kernel_rfl) pk rfl (by intros; go_simp) bq0 ?_
              simp only [ppq]
              refine tb 15 (.pointer (some ⟨b', o' + p, none⟩)) [] rfl (by kernel_rfl) pk rfl (by intros; go_simp) bq0 ?_
              simp only [ppq]
              refine tb 16 (.int .i64 (y : Int)) [] rfl (by kernel_rfl) pk rfl (by intros; go_simp) bq0 ?_
              simp only [ppq]
              refine tb 17 (.int .i64 (x : Int)) [] rfl (by kernel_rfl) pk rfl (by intros; go_simp) bq0 ?_
              simp only [ppq]
              refine tb 18 (.bool false) [] rfl (by kernel_rfl) pk rfl (by intros; go_simp) bq0 ?_
              simp only [ppq]
              refine tb 19 (.bool false) [] rfl (by kernel_rfl) pk rfl (by intros; go_simp) bq0 ?_
              simp only [ppq]
              refine tb 20 (.bool false) [] rfl (by kernel_rfl) pk rfl (by intros; go_simp) bq0 ?_
              simp only [ppq]
              refine tb 21 (.bool false) [] rfl (by kernel_rfl) pk rfl (by intros; go_simp) bq0 ?_
              simp only [ppq]
              refine tb 22 (.slice (some ⟨b, o, none⟩) n cap) [] rfl (by kernel_rfl) pk rfl (by intros; go_simp) bq0 ?_
              simp only [ppq]
              refine tb 23 (.int .i64 (x : Int)) [] rfl (by kernel_rfl) pk rfl (by intros; go_simp) bq0 ?_
              simp only [ppq]
              refine tb 24 (.pointer (some ⟨b, o + x * 2, none⟩)) [] rfl (by kernel_rfl) pk rfl (by intros; go_simp) bq0 ?_
              simp only [ppq]
              refine tb 25 (hrv (t, u)) [] rfl (by kernel_rfl) pk rfl (by intros; go_simp) bq0 ?_
              simp only [ppq]
              refine tb 26 (clv c) [] rfl (by kernel_rfl) pk rfl (by intros; go_simp) bq0 ?_
              simp only [ppq]
              refine rd1 27 (by kernel_rfl) rfl (fun K hK => ?_)
              go_simp
              go_wp2_with (go_at_call 29; (with_reducible refine mo0 (rsuits_ok (h := (t, u)) (c := c) HF.out) fun w5 hb5 hc5 hf5 _ => ?_))
              have sS5 := qh (bst bq0 hb5)
              refine hK.out _ _ (fun _ => sS5.out) ?_
              clear hK K
              refine rd1 28 (by kernel_rfl) rfl (fun K hK => ?_)
              go_simp
              refine hK.out _ _ (fun _ => bi) ?_
              clear hK K
              refine rd1 29 (by kernel_rfl) rfl (fun K hK => ?_)
              go_simp
              refine hK.out _ _ (fun _ => bi) ?_
              clear hK K
              refine wpAnyT_done (by kernel_rfl) ?_ _
              have b5 : RowKit.Below wr.heap.size wr w5 := bi
              have HS5 := qh (HSS.out.keep b5)
              have hxn := HXN.out
              have hjl := HJJ.out
              have hll := HLL.out
              have hqq := HQ.out
              go_wp2_with (at_mapUpdate; refine wpList_mapUpdate_own _ rfl _ _ _ _ rfl 3 4 int_key Tryz.underlying69 (plainElem Tryz.prog 4) wq.heap.size j D rfl HS5.out.own (by unfold maxLen; omega) (.int .i64 (x : Int)) (.bool true) (.int .i64 (x : Int)) rfl rfl (keyOf_int_mk Tryz.underlying3 (lit_wf ⟨by omega, by omega⟩)) (.lit (.bool true)) [] (plainElem_bool Tryz.underlying4 true) ?_; intro w6 ho6 hg6)
              have hbw := below_step hb b5
              have hb6 : RowKit.Below wq.heap.size wq w6 := Below.trans hbw (grownB hg6 hbw.size (fun j hj => by cases hj; exact Nat.le_refl _))
              exact ⟨⟨j + 1, _, by simp, HJJ.out, hb6, by rw [HT.out]; exact HS5.out.put ho6⟩, by have := HJJ.out; simp [intOf]; omega⟩
          · have p0 : decide (j < n3) = false := by simpa using hj
            obtain rfl : n3 = j := by omega
            have hS := HSS.out
            rw [List.take_of_length_le (by have := HLL.out.1; omega)] at hS
            have HM := qh hS
            replace HR3 := qh (HR3.out.below hb)
            replace d0 := cell_on hb d0
            replace d1 := cell_on hb d1
            replace d2 := cell_on hb d2
            replace d3 := cell_on hb d3
            replace zX := Nat.lt_of_lt_of_le zX hb.size
            replace bV := below_step bV hb
            clear hS HSS hj hjn hb HAS
            rename World => wm
            go_wp2
            go_loopw [156] (fun u wr => ∃ (i : Nat), u = .int .i64 (i : Int) ∧ i ≤ n ∧ RowKit.Below wm.heap.size wm wr) (fun u _ => n - (intOf u).toNat)
            case atStart => exact ⟨0, rfl, Nat.zero_le _, Below.refl _ _⟩
            case round =>
              obtain ⟨i, rfl, hin, hb⟩ := hrel
              have _ := bm hb
              by_cases hi : i < n
              · have p0 : decide (i < n) = true := by simpa using hi
                obtain ⟨b, o, rfl, hbl, hat⟩ := (H.out.below (below_step bV hb)).at_ (by omega)
                obtain ⟨k0, k1⟩ := hat i (by omega)
                obtain ⟨⟨t, u⟩, hx⟩ : ∃ x, hs.getD i (0, 0) = x := ⟨_, rfl⟩
                rw [hx] at k0 k1
                dsimp only at k0 k1
                have g0 := cell_on hb d0
                have g1 := cell_on hb d1
                have g2 := cell_on hb d2
                have g3 := cell_on hb d3
                have zg := Nat.lt_of_lt_of_le zX hb.size
                have ei : IntKind.i64.wrap ((i : Int) + 1) = ((i + 1 : Nat) : Int) := by rw [smw (by omega)]; omega
                obtain ⟨f, hf⟩ : ∃ f, suitB (t, u) c = f := ⟨_, rfl⟩
                have HF := qh (And.intro hf (And.intro hx (And.intro hat hi)))
                clear hat hf hx hin hl
                go_upto_region 30 with (fail)
                have bwi : RowKit.Below wr.heap.size wr (wr.alloc (.cells #[.int .i64 t, .int .i64 u] 52)) := bi
                obtain ⟨wi, hwi⟩ : ∃ x, wr.alloc (.cells #[.int .i64 t, .int .i64 u] 52) = x := ⟨_, rfl⟩
                have e0 : wi.cell? ⟨wr.heap.size, 0, none⟩ = some (.int .i64 t) := by rw [← hwi]; simp [go_sem]
                have e1 : wi.cell? ⟨wr.heap.size, 1, none⟩ = some (.int .i64 u) := by rw [← hwi]; simp [go_sem]
                have zi : wr.heap.size < wi.heap.size := by rw [← hwi]; simp
                rw [hwi] at bwi ⊢
                replace g0 := cell_on bwi g0
                replace g1 := cell_on bwi g1
                replace g2 := cell_on bwi g2
                replace g3 := cell_on bwi g3
                replace zg := Nat.lt_of_lt_of_le zg bwi.size
                replace hbl := Nat.lt_of_lt_of_le hbl bwi.size
                have hbi := below_step hb bwi
                clear hwi k0 k1
                obtain ⟨pw, hpw⟩ : ∃ p, wr.heap.size = p := ⟨_, rfl⟩
                have HWR := qh (And.intro hbi bwi)
                rw [hpw] at e0 e1 zi ⊢
                clear hpw hb bwi
                go_wp2
                go_loopw [163] (fun u wx => ∃ (k : Nat), u = .int .i64 (k : Int) ∧ k ≤ n3 ∧ RowKit.Below wi.heap.size wi wx) (fun u _ => n3 - (intOf u).toNat)
                case atStart => exact ⟨0, rfl, Nat.zero_le _, Below.refl _ _⟩
                case round =>
                  obtain ⟨k, rfl, hkn, hbk⟩ := hrel
                  have _ := bm hbk
                  rename World => wx
                  by_cases hk : k < n3
                  · have p0 : decide (k < n3) = true := by simpa using hk
                    have hn3 := HLL.out.1
                    have hn := HN.out
                    have hq := HQ.out
                    have hrl := HLL.out.2
                    obtain ⟨b', o', rfl, hbl', hat'⟩ := ((HR3.out.below HWR.out.1).below hbk).at_ (by omega)
                    have f0 := hat' k hk
                    rw [castD (by omega)] at f0
                    obtain ⟨hxn, _⟩ := HX.out k hk
                    obtain ⟨x, hx⟩ : ∃ x, L.getD k 0 = x := ⟨_, rfl⟩
                    rw [hx] at f0 hxn
                    have hcol := HCO.out i k HF.out.2.2.2 hk
                    rw [HF.out.2.1, hx] at hcol
                    obtain ⟨k0, _⟩ := HF.out.2.2.1 x (by have := HL.out; omega)
                    obtain ⟨⟨t', u'⟩, hy⟩ : ∃ y, hs.getD x (0, 0) = y := ⟨_, rfl⟩
                    rw [hy] at k0 hcol
                    dsimp only at k0 hcol
                    replace k0 := cell_on (below_step (below_step (Below.refl _ _) (HWR.out.2)) hbk) k0
                    obtain ⟨r, hr⟩ : ∃ r, decide ((i : Int) ∈ L.map Int.ofNat) = r := ⟨_, rfl⟩
                    have hi := HF.out.2.2.2
                    have hlook := fun j => ((HM.out.keep HWR.out.1).keep hbk).look (k := (i : Int)) ⟨by omega, by omega⟩ hr j
                    have hmem : decide (i ∈ L) = r := by rw [← hr, decide_eq_decide]; exact mem_cast.symm
                    have e0' := cell_on hbk e0
                    have e1' := cell_on hbk e1
                    have c0 := cell_on hbk g0
                    have c1 := cell_on hbk g1
                    have c2 := cell_on hbk g2
                    have c3' := cell_on hbk g3
                    have zk := Nat.lt_of_lt_of_le zg hbk.size
                    have zp := Nat.lt_of_lt_of_le zi hbk.size
                    have zb := Nat.lt_of_lt_of_le hbl hbk.size
                    have HKK := qh (And.intro hk hi)
                    have HIR := qh hr
                    have HIM := qh (HM.out.keep HWR.out.1)
                    have hff := HF.out.1
                    have ek : IntKind.i64.wrap ((k : Int) + 1) = ((k + 1 : Nat) : Int) := by rw [smw (by omega)]; omega
                    clear hat' hx hy hr hkn hrl hq hn hn3
                    cases r with
                    | true =>
                      clear hcol hff hmem
                      go_upto_region 33 with (fail)
                      go_quiet (fail)
                      go_wp2
                      exact ⟨⟨k + 1, by simp, HKK.out.1, bN hbk⟩, by have := HKK.out.1; simp [intOf]; omega⟩
                    | false =>
                      cases f with
                      | false =>
                        clear hcol
                        go_upto_region 33 with (fail)
                        refine wp_region_T (fun w' => Below wx.heap.size wx w') [] (by kernel_rfl) ?_
                        refine tb 0 (.map (some wq.heap.size)) [] rfl (by kernel_rfl) pk rfl (by intros; go_simp) bq0 ?_
                        simp only [ppq]
                        refine tb 1 (.int .i64 (i : Int)) [] rfl (by kernel_rfl) pk rfl (by intros; go_simp) bq0 ?_
                        simp only [ppq]
                        refine tk 2 (.bool false) [] rfl (by kernel_rfl) pk (by rfl) ?_ bq0 ?_
                        · intro w' hS'
                          have hz := ((HIM.out.keep hbk).keep hS').look0 (k := (i : Int)) (by have := HKK.out.2; have := HN.out; exact ⟨by omega, by omega⟩) HIR.out
                          go_simp
                        simp only [ppq]
                        refine tb 3 (.bool true) [] rfl (by kernel_rfl) pk rfl (by intros; go_simp) bq0 ?_
                        simp only [ppq]
                        refine tb 4 (.bool true) [] rfl (by kernel_rfl) pk rfl (by intros; go_simp) bq0 ?_
                        simp only [ppq]
                        refine tb 5 (hrv (t, u)) [] rfl (by kernel_rfl) pk rfl (by intros; go_simp) bq0 ?_
                        simp only [ppq]
                        refine tb 6 (clv c) [] rfl (by kernel_rfl) pk rfl (by intros; go_simp) bq0 ?_
                        simp only [ppq]
                        refine rd1 7 (by kernel_rfl) rfl (fun K hK => ?_)
                        go_simp
                        go_wp2_with (go_at_call 29; (with_reducible refine mo0 (rsuits_ok (h := (t, u)) (c := c) hff) fun w5 hb5 hc5 hf5 _ => ?_))
                        have sS5 := qh (bst bq0 hb5)
                        refine hK.out _ _ (fun _ => sS5.out) ?_
                        clear hK K
                        refine rd1 8 (by kernel_rfl) rfl (fun K hK => ?_)
                        go_simp
                        refine hK.out _ _ (fun _ => bi) ?_
                        clear hK K
                        refine rd1 9 (by kernel_rfl) rfl (fun K hK => ?_)
                        go_simp
                        refine hK.out _ _ (fun _ => bi) ?_
                        clear hK K
                        refine ts 10 [] rfl (by kernel_rfl) pk (by rfl) sS5.out ?_
                        simp only [ppq]
                        refine ts 11 [] rfl (by kernel_rfl) pk (by rfl) sS5.out ?_
                        simp only [ppq]
                        refine ts 12 [] rfl (by kernel_rfl) pk (by rfl) sS5.out ?_
                        simp only [ppq]
                        refine ts 13 [] rfl (by kernel_rfl) pk (by rfl) sS5.out ?_
                        simp only [ppq]
                        refine ts 14 [] rfl (by kernel_rfl) pk (by rfl) sS5.out ?_
                        simp only [ppq]
                        refine ts 15 [] rfl (by kernel_rfl) pk (by rfl) sS5.out ?_
                        simp only [ppq]
                        refine ts 16 [] rfl (by kernel_rfl) pk (by rfl) sS5.out ?_
                        simp only [ppq]
                        refine ts 17 [] rfl (by kernel_rfl) pk (by rfl) sS5.out ?_
                        simp only [ppq]
                        refine rd1 18 (by kernel_rfl) rfl (fun K hK => ?_)
                        go_simp
                        refine hK.out _ _ (fun _ => bi) ?_
                        clear hK K
                        refine wpAnyT_done (by kernel_rfl) ?_ _
                        go_wp2
                        exact ⟨⟨k + 1, by simp, HKK.out.1, below_step hbk bi⟩, by have := HKK.out.1; simp [intOf]; omega⟩
                      | true =>
                        have q9 := hcol hff hmem
                        clear hcol
                        go_upto_region 33 with (fail)
                        refine wp_region_T (fun w' => Below wx.heap.size wx w') [] (by kernel_rfl) ?_
                        refine tb 0 (.map (some wq.heap.size)) [] rfl (by kernel_rfl) pk rfl (by intros; go_simp) bq0 ?_
                        simp only [ppq]
                        refine tb 1 (.int .i64 (i : Int)) [] rfl (by kernel_rfl) pk rfl (by intros; go_simp) bq0 ?_
                        simp only [ppq]
                        refine tk 2 (.bool false) [] rfl (by kernel_rfl) pk (by rfl) ?_ bq0 ?_
                        · intro w' hS'
                          have hz := ((HIM.out.keep hbk).keep hS').look0 (k := (i : Int)) (by have := HKK.out.2; have := HN.out; exact ⟨by omega, by omega⟩) HIR.out
                          go_simp
                        simp only [ppq]
                        refine tb 3 (.bool true) [] rfl (by kernel_rfl) pk rfl (by intros; go_simp) bq0 ?_
                        simp only [ppq]
                        refine tb 4 (.bool true) [] rfl (by kernel_rfl) pk rfl (by intros; go_simp) bq0 ?_
                        simp only [ppq]
                        refine tb 5 (hrv (t, u)) [] rfl (by kernel_rfl) pk rfl (by intros; go_simp) bq0 ?_
                        simp only [ppq]
                        refine tb 6 (clv c) [] rfl (by kernel_rfl) pk rfl (by intros; go_simp) bq0 ?_
                        simp only [ppq]
                        refine rd1 7 (by kernel_rfl) rfl (fun K hK => ?_)
                        go_simp
                        go_wp2_with (go_at_call 29; (with_reducible refine mo0 (rsuits_ok (h := (t, u)) (c := c) hff) fun w5 hb5 hc5 hf5 _ => ?_))
                        have sS5 := qh (bst bq0 hb5)
                        refine hK.out _ _ (fun _ => sS5.out) ?_
                        clear hK K
                        refine rd1 8 (by kernel_rfl) rfl (fun K hK => ?_)
                        go_simp
                        refine hK.out _ _ (fun _ => bi) ?_
                        clear hK K
                        refine rd1 9 (by kernel_rfl) rfl (fun K hK => ?_)
                        go_simp
                        refine hK.out _ _ (fun _ => bi) ?_
                        clear hK K
                        refine tb 10 (.pointer (some ⟨pw, 0, none⟩)) [] rfl (by kernel_rfl) pk rfl (by intros; go_simp) sS5.out ?_
                        simp only [ppq]
                        refine tb 11 (.int .i64 t) [] rfl (by kernel_rfl) pk rfl (by intros; go_simp) sS5.out ?_
                        simp only [ppq]
                        refine tb 12 (.slice (some ⟨b, o, none⟩) n cap) [] rfl (by kernel_rfl) pk rfl (by intros; go_simp) sS5.out ?_
                        simp only [ppq]
                        refine tb 13 (.int .i64 (x : Int)) [] rfl (by kernel_rfl) pk rfl (by intros; go_simp) sS5.out ?_
                        simp only [ppq]
                        refine tb 14 (.pointer (some ⟨b, o + x * 2, none⟩)) [] rfl (by kernel_rfl) pk rfl (by intros; go_simp) sS5.out ?_
                        simp only [ppq]
                        refine tb 15 (.pointer (some ⟨b, o + x * 2, none⟩)) [] rfl (by kernel_rfl) pk rfl (by intros; go_simp) sS5.out ?_
                        simp only [ppq]
                        refine tb 16 (.int .i64 t') [] rfl (by kernel_rfl) pk rfl (by intros; go_simp) sS5.out ?_
                        simp only [ppq]
                        refine tb 17 (.bool false) [] rfl (by kernel_rfl) pk rfl (by intros; go_simp) sS5.out ?_
                        simp only [ppq]
                        refine rd1 18 (by kernel_rfl) rfl (fun K hK => ?_)
                        go_simp
                        refine hK.out _ _ (fun _ => bi) ?_
                        clear hK K
                        refine wpAnyT_done (by kernel_rfl) ?_ _
                        go_wp2
                        exact ⟨⟨k + 1, by simp, HKK.out.1, below_step hbk bi⟩, by have := HKK.out.1; simp [intOf]; omega⟩
                  · have p0 : decide (k < n3) = false := by simpa using hk
                    clear hk hkn
                    go_wp2
                    exact ⟨⟨i + 1, by simp, HF.out.2.2.2, below_step HWR.out.1 (below_step hbk bi)⟩, by have := HF.out.2.2.2; simp [intOf]; omega⟩
              · have p0 : decide (i < n) = false := by simpa using hi
                obtain rfl : n = i := by omega
                replace HM := qh (HM.out.keep hb)
                replace d0 := cell_on hb d0
                replace d1 := cell_on hb d1
                replace d2 := cell_on hb d2
                replace d3 := cell_on hb d3
                replace zX := Nat.lt_of_lt_of_le zX hb.size
                replace bV := below_step bV hb
                have hq5 := HQ.out
                have hq24 : need ≤ 24 := hq5.2
                have m1 : IntKind.i64.wrap (need + 1) = need + 1 := by rw [smw (by omega)]
                clear hb hi hin hq5 hq24 HX HCO HR3 hl
                rename World => wz
                by_cases hm : need < (q : Int)
                · obtain ⟨hm1, hm2⟩ := HNX.out hm
                  have p1 : decide (need < (q : Int)) = true := by simpa using hm
                  replace HG := qh (HG.out hm1)
                  clear hm hm1 HNX
                  obtain ⟨G, hG⟩ : ∃ G, runL hs c (need + 1) hs.length = G := ⟨_, rfl⟩
                  rw [hG] at HMO HG hm2 HGX
                  clear hG
                  go_upto_region 39 with (go_at_call 22; (with_reducible refine (HG.out _ (below_step bV bi)).mono ?_); rintro e7 w7 ⟨A7, n7, c7, rfl, hr7, hb7⟩; obtain ⟨hc7, hf7, _⟩ := bc0 hb7)
                  have hl7 := hr7.len
                  rw [List.length_map] at hl7
                  have q7 : ((n7 : Int) != need + 1) = false := by rw [bne_eq_false_iff_eq]; omega
                  replace HM := qh (HM.out.keep hb7)
                  have HR7 := qh hr7
                  have HL7 := qh (And.intro hl7 hm2)
                  replace d0 := cell_on hb7 d0
                  replace d1 := cell_on hb7 d1
                  replace d2 := cell_on hb7 d2
                  replace d3 := cell_on hb7 d3
                  replace zX := Nat.lt_of_lt_of_le zX hb7.size
                  replace bV := below_step bV hb7
                  clear hc7 hf7 hb7 hr7 hl7 hm2
                  go_wp2
                  go_loopw [25, 210] (fun v u wr => ∃ (q5 j : Nat), v = .int .i64 (q5 : Int) ∧ u = .int .i64 (j : Int) ∧ j ≤ n7 ∧ RowKit.Below w7.heap.size w7 wr ∧ q5 = ((G.take j).filter fun k => decide (k ∈ L)).length) (fun _ u _ => n7 - (intOf u).toNat)
                  case atStart => exact ⟨0, 0, rfl, rfl, Nat.zero_le _, Below.refl _ _, rfl⟩
                  case round =>
                    obtain ⟨q5, j, rfl, rfl, hjn, hb, hq5⟩ := hrel
                    have _ := bm hb
                    have hl7 := HL7.out
                    have hq := HQ.out
                    by_cases hj : j < n7
                    · have p0 : decide (j < n7) = true := by simpa using hj
                      obtain ⟨b', o', rfl, hbl', hat'⟩ := (HR7.out.below hb).at_ (by omega)
                      have f0 := hat' j hj
                      rw [castD (by omega)] at f0
                      have hfd := filtD (L := G) (j := j) (p := fun k => decide (k ∈ L)) (by omega)
                      have hq5n : q5 ≤ 25 := by rw [hq5]; have := List.length_filter_le (fun k => decide (k ∈ L)) (G.take j); rw [List.length_take] at this; omega
                      obtain ⟨x, hx⟩ : ∃ x, G.getD j 0 = x := ⟨_, rfl⟩
                      rw [hx] at f0 hfd
                      try dsimp only at hfd
                      have hx24 : x ≤ 1000 := HGX.out j x hx
                      obtain ⟨r, hr⟩ : ∃ r, decide ((x : Int) ∈ L.map Int.ofNat) = r := ⟨_, rfl⟩
                      have hlook := (HM.out.keep hb).look0 (k := (x : Int)) ⟨by omega, by omega⟩ hr
                      have hmem : decide (x ∈ L) = r := by rw [← hr, decide_eq_decide]; exact mem_cast.symm
                      rw [hmem, ← hq5] at hfd
                      have HFD := qh (And.intro hfd hj)
                      have ej : IntKind.i64.wrap ((j : Int) + 1) = ((j + 1 : Nat) : Int) := by rw [smw (by omega)]; omega
                      have eq : IntKind.i64.wrap ((q5 : Int) + 1) = ((q5 + 1 : Nat) : Int) := by rw [smw (by omega)]; omega
                      clear hat' hfd hq5 hr hmem hx hjn hl7 hq hq5n
                      cases r with
                      | true =>
                        go_wp2
                        exact ⟨⟨q5 + 1, j + 1, by simp, by simp, HFD.out.2, below_step hb bi, by rw [HFD.out.1]; rfl⟩, by have := HFD.out.2; simp [intOf]; omega⟩
                      | false =>
                        go_wp2
                        exact ⟨⟨q5, j + 1, by simp, by simp, HFD.out.2, below_step hb bi, by rw [HFD.out.1]; rfl⟩, by have := HFD.out.2; simp [intOf]; omega⟩
                    · have p0 : decide (j < n7) = false := by simpa using hj
                      rw [List.take_of_length_le (by omega), HMO.out] at hq5
                      have hll := HLL.out
                      have q6 : ((q5 : Int) != need) = false := by rw [bne_eq_false_iff_eq]; omega
                      replace d0 := cell_on hb d0
                      replace d1 := cell_on hb d1
                      replace d2 := cell_on hb d2
                      replace d3 := cell_on hb d3
                      replace zX := Nat.lt_of_lt_of_le zX hb.size
                      replace bV := below_step bV hb
                      clear hj hjn hl7 hq hq5 hll hb
                      go_wp2_with (first | (go_at_call 23; (with_reducible refine mo0 (HC.out _ (below_step bV bi)) fun w8 hb8 hc8 hf8 _ => ?_)) | (go_at_call 33; (with_reducible refine mo0 (HR.out _ (below_step bV bi)) fun w9 hb9 hc9 hf9 _ => ?_)) | (go_at_call 8; (with_reducible refine mo0 (HA.out _ (below_step bV bi)) fun w10 hb10 hc10 hf10 _ => ?_)))
                      go_ret
                      exact ⟨rfl, below_step bV bi⟩
                · have p1 : decide (need < (q : Int)) = false := by simpa using hm
                  clear hm
                  go_wp2_with (first | (go_at_call 23; (with_reducible refine mo0 (HC.out _ (below_step bV bi)) fun w8 hb8 hc8 hf8 _ => ?_)) | (go_at_call 33; (with_reducible refine mo0 (HR.out _ (below_step bV bi)) fun w9 hb9 hc9 hf9 _ => ?_)) | (go_at_call 8; (with_reducible refine mo0 (HA.out _ (below_step bV bi)) fun w10 hb10 hc10 hf10 _ => ?_)))
                  go_ret
                  exact ⟨rfl, below_step bV bi⟩
theorem fans_walk (hE : Env6 w) (h : Hv w A n hs) (hnc : n ≤ cap) (c : Clim) {need : Int} (_ : (Lit.int .i64 need).wf = true) :
    Calls Tryz.prog 6 #[.slice A n cap, clv c, .int .i64 need] w fun e w' => e = .returned (.bool true) ∧ Below w.heap.size w w' := by
  cases hl : lookB hs c need with
  | false => exact fans_out hE h hl
  | true => exact fans_main hE h hnc hl
end
end Go.Proofs.YtnbnoacadhoimaaGreatDoor
