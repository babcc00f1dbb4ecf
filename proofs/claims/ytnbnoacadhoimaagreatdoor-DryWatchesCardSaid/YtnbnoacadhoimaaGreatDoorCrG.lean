/- The alarms of readings: shifted, cut off, of one sensor. Plain facts. -/
import Derived.Test.YtnbnoacadhoimaaGreatDoorCjG
import Derived.Test.YtnbnoacadhoimaaGreatDoorCcG
import Derived.Test.YtnbnoacadhoimaaGreatDoorCeG
import Derived.Test.YtnbnoacadhoimaaGreatDoorDbG
import Derived.Maps.Own
import Derived.Maps.OwnSet
import Derived.Maps.Views
import Derived.Carry
set_option linter.unusedSimpArgs false
set_option linter.unusedVariables false
set_option maxRecDepth 100000
set_option maxHeartbeats 8000000
namespace Go.Proofs.YtnbnoacadhoimaaGreatDoor
open Go Go.RowKit Go.Sort

theorem rsR_congr {x x' : Wt} {rs rs' : List (List Int)} {t k k' : Nat} (hr : x.r = x'.r) (hi : x.i = x'.i) : ∀ n i, (∀ j, i ≤ j → j < i + n → at2 rs t k - at2 rs j k = at2 rs' t k' - at2 rs' j k') → rsR x rs t k n i = rsR x' rs' t k' n i
  | 0, _, _ => rfl
  | n + 1, i, h => by
    rw [rsR, rsR, h i (Nat.le_refl _) (by omega), rsR_congr hr hi n (i + 1) (fun j a b => h j (by omega) (by omega)), hr, hi]
theorem spR_congr {x x' : Wt} {rs rs' : List (List Int)} {t k : Nat} (ho : x.o = x'.o) : ∀ n i c, (∀ j, i ≤ j → j < i + n → at2 rs t k - at2 rs t j = at2 rs' t k - at2 rs' t j) → spR x rs t k n i c = spR x' rs' t k n i c
  | 0, _, _, _ => rfl
  | n + 1, i, c, h => by
    rw [spR, spR, h i (Nat.le_refl _) (by omega), spR_congr ho n (i + 1) (c + 1) (fun j a b => h j (by omega) (by omega)), spR_congr ho n (i + 1) c (fun j a b => h j (by omega) (by omega)), ho]
theorem alJ_congr {x x' : Wt} {m m' : Nat} {rs rs' : List (List Int)} {t k : Nat} : ∀ j, j ≤ 3 → (∀ i, i < 3 → kindB x m rs t k i = kindB x' m' rs' t k i) → alJ x m rs t k j = alJ x' m' rs' t k j
  | 0, _, _ => rfl
  | j + 1, hj, h => by rw [alJ, alJ, alJ_congr j (by omega) h, h j (by omega)]
theorem alK_congr {x x' : Wt} {m m' : Nat} {rs rs' : List (List Int)} {t : Nat} : ∀ k, (∀ j, j < k → ∀ i, i < 3 → kindB x m rs t j i = kindB x' m' rs' t j i) → alK x m rs t k = alK x' m' rs' t k
  | 0, _ => rfl
  | k + 1, h => by rw [alK, alK, alK_congr k (fun j a => h j (by omega)), alJ_congr 3 (Nat.le_refl _) (h k (by omega))]
theorem alT_congr {x x' : Wt} {m : Nat} {rs rs' : List (List Int)} : ∀ t, (∀ s, s < t → ∀ k, k < m → ∀ i, i < 3 → kindB x m rs s k i = kindB x' m rs' s k i) → alT x m rs t = alT x' m rs' t
  | 0, _ => rfl
  | t + 1, h => by rw [alT, alT, alT_congr t (fun s a => h s (by omega)), alK_congr m (h t (by omega))]
theorem kind_eq {x x' : Wt} {m : Nat} {rs rs' : List (List Int)} {t k : Nat} (hx : 1 ≤ x.i) (ht : t < rs.length) (ht' : t < rs'.length) (hk : k < m) (hr : x.r = x'.r) (hi : x.i = x'.i) (ho : x.o = x'.o)
    (h1 : hotB x rs t k = hotB x' rs' t k) (h2 : ∀ j, j < t → at2 rs t k - at2 rs j k = at2 rs' t k - at2 rs' j k) (h3 : ∀ j, j < m → at2 rs t k - at2 rs t j = at2 rs' t k - at2 rs' t j) : ∀ i, i < 3 → kindB x m rs t k i = kindB x' m rs' t k i
  | 0, _ => h1
  | 1, _ => by
    show riseB x rs t k = riseB x' rs' t k
    rw [← rsR_rise (Nat.le_of_lt ht) hx, ← rsR_rise (Nat.le_of_lt ht') (by rw [← hi]; exact hx)]
    exact rsR_congr hr hi t 0 fun j _ hj => h2 j (by omega)
  | 2, _ => by
    show spotB x m rs t k = spotB x' m rs' t k
    rw [← spR_spot hk, ← spR_spot hk]
    exact spR_congr ho m 0 0 fun j _ hj => h3 j (by omega)
  | i + 3, h => by omega
/-- All temperatures by d. -/
def warmL (rs : List (List Int)) (d : Int) : List (List Int) := rs.map fun z => z.map (· + d)
theorem warm_at {rs : List (List Int)} {d : Int} {t k : Nat} (ht : t < rs.length) (hk : k < (rs.getD t []).length) : at2 (warmL rs d) t k = at2 rs t k + d := by
  unfold at2 warmL
  rw [List.getD_eq_getElem?_getD (l := rs)] at hk ⊢
  rw [List.getElem?_eq_getElem ht] at hk ⊢
  simp only [Option.getD_some] at hk ⊢
  simp [List.getD_eq_getElem?_getD, ht, hk]
theorem warm_al {x : Wt} {m : Nat} {rs : List (List Int)} {d : Int} (hg : Good m rs) (hx : 1 ≤ x.i) : alT ⟨x.a + d, x.r, x.i, x.o⟩ m (warmL rs d) rs.length = alT x m rs rs.length := by
  have hw : ∀ t k, t < rs.length → k < m → at2 (warmL rs d) t k = at2 rs t k + d := fun t k ht hk => warm_at ht (by rw [hg.len _ (getD_in ht)]; exact hk)
  refine alT_congr _ fun t ht k hk => kind_eq hx (by unfold warmL; rw [List.length_map]; exact ht) ht hk rfl rfl rfl ?_ (fun j hj => ?_) (fun j hj => ?_)
  · unfold hotB
    rw [hw t k ht hk, Bool.eq_iff_iff, decide_eq_true_iff, decide_eq_true_iff]
    dsimp only
    omega
  · rw [hw t k ht hk, hw j k (by omega) hk]; omega
  · rw [hw t k ht hk, hw t j ht hj]; omega
theorem take_at {rs : List (List Int)} {p t k : Nat} (h : t < p) : at2 (rs.take p) t k = at2 rs t k := by
  unfold at2
  rw [List.getD_eq_getElem?_getD (l := rs.take p), List.getElem?_take, if_pos h, ← List.getD_eq_getElem?_getD]
theorem take_al {x : Wt} {m : Nat} {rs : List (List Int)} {p : Nat} (hp : p ≤ rs.length) (hx : 1 ≤ x.i) : alT x m (rs.take p) p = alT x m rs p := by
  refine alT_congr _ fun t ht k hk => kind_eq hx (by rw [List.length_take]; omega) (by omega) hk rfl rfl rfl ?_ (fun j hj => ?_) (fun j hj => ?_)
  · unfold hotB; rw [take_at ht]
  · rw [take_at ht, take_at (by omega)]
  · rw [take_at ht, take_at ht]
theorem alJ_time {x : Wt} {m : Nat} {rs : List (List Int)} {t k : Nat} : ∀ j, ∀ a ∈ alJ x m rs t k j, a.1 = (t : Int)
  | 0, a, h => by cases h
  | j + 1, a, h => by
    rw [alJ, List.mem_append] at h
    rcases h with h | h
    · exact alJ_time j a h
    · split at h
      · rw [List.mem_singleton.1 h]
      · cases h
theorem alK_time {x : Wt} {m : Nat} {rs : List (List Int)} {t : Nat} : ∀ k, ∀ a ∈ alK x m rs t k, a.1 = (t : Int)
  | 0, a, h => by cases h
  | k + 1, a, h => by
    rw [alK, List.mem_append] at h
    exact h.elim (alK_time k a) (alJ_time 3 a)
theorem alT_split {x : Wt} {m : Nat} {rs : List (List Int)} {p : Nat} : ∀ q, ∃ R, alT x m rs (p + q) = alT x m rs p ++ R ∧ ∀ a ∈ R, (p : Int) ≤ a.1
  | 0 => ⟨[], by rw [List.append_nil]; rfl, fun a h => by cases h⟩
  | q + 1 => by
    obtain ⟨R, h1, h2⟩ := alT_split (x := x) (m := m) (rs := rs) (p := p) q
    refine ⟨R ++ alK x m rs (p + q) m, by rw [← Nat.add_assoc, alT, h1, List.append_assoc], fun a h => ?_⟩
    rcases List.mem_append.1 h with h | h
    · exact h2 a h
    · rw [alK_time m a h]; omega
/-- The first rows' alarms are the first alarms; what follows is later. -/
theorem alT_first {x : Wt} {m : Nat} {rs : List (List Int)} {p n : Nat} (h : p ≤ n) : (alT x m rs p).length ≤ (alT x m rs n).length ∧ (alT x m rs n).take (alT x m rs p).length = alT x m rs p ∧ ∀ j, (alT x m rs p).length ≤ j → j < (alT x m rs n).length → (p : Int) ≤ ((alT x m rs n).getD j (0, 0, [])).1 := by
  obtain ⟨R, h1, h2⟩ := alT_split (x := x) (m := m) (rs := rs) (p := p) (n - p)
  rw [show p + (n - p) = n by omega] at h1
  rw [h1]
  refine ⟨by rw [List.length_append]; omega, by rw [List.take_left], fun j a b => ?_⟩
  rw [List.getD_eq_getElem?_getD, List.getElem?_append_right a, List.getElem?_eq_getElem (by rw [List.length_append] at b; omega)]
  exact h2 _ (List.getElem_mem _)
def isHot (k : Nat) (p : Alm) : Bool := decide (p.2.1 = (k : Int)) && decide (p.2.2 = kindT 0)
theorem kindT_ne {i : Nat} (h : 0 < i) : kindT i ≠ kindT 0 := by
  match i, h with
  | 1, _ => decide
  | i + 2, _ => show ([115, 112, 111, 116] : List UInt8) ≠ _; decide
theorem hot_J {x : Wt} {m : Nat} {rs : List (List Int)} {t k s : Nat} : ((alJ x m rs t s 3).filter (isHot k)) = if s = k then (if hotB x rs t k then [((t : Int), (k : Int), kindT 0)] else []) else [] := by
  have e : alJ x m rs t s 3 = (if kindB x m rs t s 0 then [((t : Int), (s : Int), kindT 0)] else []) ++ (if kindB x m rs t s 1 then [((t : Int), (s : Int), kindT 1)] else []) ++ (if kindB x m rs t s 2 then [((t : Int), (s : Int), kindT 2)] else []) := by
    rw [alJ, alJ, alJ, alJ, List.nil_append]
  have f1 : (if kindB x m rs t s 1 then [((t : Int), (s : Int), kindT 1)] else []).filter (isHot k) = [] := by
    split
    · rw [List.filter_cons, if_neg (by unfold isHot; rw [decide_eq_false (kindT_ne (by omega)), Bool.and_false]; decide)]; rfl
    · rfl
  have f2 : (if kindB x m rs t s 2 then [((t : Int), (s : Int), kindT 2)] else []).filter (isHot k) = [] := by
    split
    · rw [List.filter_cons, if_neg (by unfold isHot; rw [decide_eq_false (kindT_ne (by omega)), Bool.and_false]; decide)]; rfl
    · rfl
  rw [e, List.filter_append, List.filter_append, f1, f2, List.append_nil, List.append_nil]
  show (if hotB x rs t s then _ else _ : List Alm).filter (isHot k) = _
  by_cases hs : s = k
  · subst hs
    rw [if_pos rfl]
    split
    · rw [List.filter_cons, if_pos (by unfold isHot; rw [decide_eq_true rfl, decide_eq_true rfl]; rfl)]; rfl
    · rfl
  · rw [if_neg hs]
    split
    · rw [List.filter_cons, if_neg (by unfold isHot; rw [decide_eq_false (by show ¬ (s : Int) = (k : Int); omega), Bool.false_and]; decide)]; rfl
    · rfl
theorem hot_K {x : Wt} {m : Nat} {rs : List (List Int)} {t k : Nat} : ∀ s, ((alK x m rs t s).filter (isHot k)) = if k < s then (if hotB x rs t k then [((t : Int), (k : Int), kindT 0)] else []) else []
  | 0 => by rw [if_neg (by omega)]; rfl
  | s + 1 => by
    rw [alK, List.filter_append, hot_K s, hot_J]
    by_cases h1 : k < s
    · rw [if_pos h1, if_neg (show ¬ s = k by omega), if_pos (show k < s + 1 by omega), List.append_nil]
    · rw [if_neg h1, List.nil_append]
      by_cases h2 : s = k
      · rw [if_pos h2, if_pos (show k < s + 1 by omega)]
      · rw [if_neg h2, if_neg (show ¬ k < s + 1 by omega)]
/-- When a sensor is too hot. -/
def hotTs (x : Wt) (rs : List (List Int)) (k : Nat) : Nat → List Int
  | 0 => []
  | t + 1 => hotTs x rs k t ++ if hotB x rs t k then [(t : Int)] else []
theorem hot_T {x : Wt} {m : Nat} {rs : List (List Int)} {k : Nat} (hk : k < m) : ∀ t, ((alT x m rs t).filter (isHot k)).map (·.1) = hotTs x rs k t
  | 0 => rfl
  | t + 1 => by
    rw [alT, List.filter_append, List.map_append, hot_T hk t, hot_K, if_pos hk, hotTs]
    split <;> rfl
theorem hotTs_congr {x : Wt} {rs rs' : List (List Int)} {k k' : Nat} : ∀ t, (∀ s, s < t → at2 rs s k = at2 rs' s k') → hotTs x rs k t = hotTs x rs' k' t
  | 0, _ => rfl
  | t + 1, h => by
    rw [hotTs, hotTs, hotTs_congr t (fun s a => h s (by omega))]
    have : hotB x rs t k = hotB x rs' t k' := by unfold hotB; rw [h t (by omega)]
    rw [this]
/-- One sensor alone. -/
def aloneL (rs : List (List Int)) (k : Nat) : List (List Int) := rs.map fun z => (z.drop k).take 1
theorem alone_at {rs : List (List Int)} {t k : Nat} (ht : t < rs.length) (hk : k < (rs.getD t []).length) : at2 (aloneL rs k) t 0 = at2 rs t k := by
  unfold at2 aloneL
  rw [List.getD_eq_getElem?_getD (l := rs)] at hk ⊢
  rw [List.getElem?_eq_getElem ht] at hk ⊢
  simp only [Option.getD_some] at hk ⊢
  simp [List.getD_eq_getElem?_getD, ht, hk]
/-- In the alarms of a sensor alone each one is its own. -/
theorem alone_hot {x : Wt} {rs : List (List Int)} : ∀ t, ((alT x 1 rs t).filter fun p => decide (p.2.2 = kindT 0)) = (alT x 1 rs t).filter (isHot 0) := fun t => by
  have hs : ∀ t, ∀ a ∈ alT x 1 rs t, a.2.1 = 0 := by
    intro t
    induction t with
    | zero => intro a h; cases h
    | succ t ih =>
      intro a h
      rw [alT, List.mem_append] at h
      rcases h with h | h
      · exact ih a h
      · rw [alK, alK, List.nil_append] at h
        have hJ : ∀ j, ∀ a ∈ alJ x 1 rs t 0 j, a.2.1 = 0 := by
          intro j
          induction j with
          | zero => intro a h; cases h
          | succ j ih2 =>
            intro a h
            rw [alJ, List.mem_append] at h
            rcases h with h | h
            · exact ih2 a h
            · split at h
              · rw [List.mem_singleton.1 h]; rfl
              · cases h
        exact hJ 3 a h
  refine List.filter_congr fun a ha => ?_
  unfold isHot
  rw [decide_eq_true (show a.2.1 = ((0 : Nat) : Int) from hs t a ha), Bool.true_and]
theorem alone_al {x : Wt} {m : Nat} {rs : List (List Int)} {k : Nat} (hg : Good m rs) (hk : k < m) : ((alT x 1 (aloneL rs k) rs.length).filter fun p => decide (p.2.2 = kindT 0)).map (·.1) = ((alT x m rs rs.length).filter (isHot k)).map (·.1) := by
  rw [alone_hot, hot_T (by omega), hot_T hk]
  exact hotTs_congr _ fun s hs => alone_at hs (by rw [hg.len _ (getD_in hs)]; exact hk)
theorem good_read {m : Nat} {rs : List (List Int)} (h : Good m rs) (h0 : 0 < rs.length) : readE rs = 0 := by
  have hr : ∀ z ∈ rs, rowE m z = 0 := fun z hz => by
    have h1 := h.len z hz
    have h2 := h.m0
    have h3 := h.m64
    rw [rowE_eq, if_neg (by omega), if_neg (by omega), if_neg (by omega), if_neg]
    rw [Bool.not_eq_true, List.any_eq_false]
    intro v hv
    rw [h.tmp z hz v hv]
    decide
  have hs : ∀ l : List (List Int), (∀ z ∈ l, rowE m z = 0) → rowsE m l = 0 := by
    intro l
    induction l with
    | nil => intro _; rfl
    | cons a l ih =>
      intro hl
      rw [rowsE_cons, if_pos (hl a (by simp))]
      exact ih fun z hz => hl z (by simp [hz])
  have hf := h.few
  unfold readE
  rw [if_neg (by omega), if_neg (by omega), h.len _ (getD_in h0)]
  exact hs rs hr
theorem good_warm {m : Nat} {rs : List (List Int)} {d : Nat} (h : Good m rs) (hT : ∀ z ∈ rs, ∀ v ∈ z, -300 ≤ v ∧ v ≤ 700) (hd : d < 256) : Good m (warmL rs d) := by
  refine ⟨fun z hz => ?_, fun z hz v hv => ?_, h.m0, h.m64, by unfold warmL; rw [List.length_map]; exact h.few⟩
  · obtain ⟨y, hy, rfl⟩ := List.mem_map.1 hz
    rw [List.length_map]; exact h.len y hy
  · obtain ⟨y, hy, rfl⟩ := List.mem_map.1 hz
    obtain ⟨u, hu, rfl⟩ := List.mem_map.1 hv
    have := hT y hy u hu
    simp [tmpB]; omega
theorem good_alone {m : Nat} {rs : List (List Int)} {k : Nat} (h : Good m rs) (hk : k < m) : Good 1 (aloneL rs k) := by
  refine ⟨fun z hz => ?_, fun z hz v hv => ?_, Nat.one_pos, by omega, by unfold aloneL; rw [List.length_map]; exact h.few⟩
  · obtain ⟨y, hy, rfl⟩ := List.mem_map.1 hz
    rw [List.length_take, List.length_drop, h.len y hy]; omega
  · obtain ⟨y, hy, rfl⟩ := List.mem_map.1 hz
    exact h.tmp y hy v (List.mem_of_mem_drop (List.mem_of_mem_take hv))
theorem good_take {m : Nat} {rs : List (List Int)} {p : Nat} (h : Good m rs) : Good m (rs.take p) :=
  ⟨fun z hz => h.len z (List.mem_of_mem_take hz), fun z hz => h.tmp z (List.mem_of_mem_take hz), h.m0, h.m64, by have := h.few; rw [List.length_take]; omega⟩
theorem watch_warm {x : Wt} {d : Nat} (h : watchB x = true) (ha : x.a ≤ 700) (hd : d < 256) : watchB ⟨x.a + d, x.r, x.i, x.o⟩ = true := by
  unfold watchB at h ⊢
  rw [Bool.and_eq_true] at h ⊢
  refine ⟨?_, h.2⟩
  have := tmp_sml h.1
  simp [tmpB]; omega
theorem len_le {rs : List (List Int)} {m : Nat} (h : Good m rs) : ∀ z ∈ rs, z.length ≤ 100000 := fun z hz => by rw [h.len z hz]; have := h.m64; omega
theorem Rv.first {w : World} {b o n p : Nat} {rs : List (List Int)} (h : Rv w (some ⟨b, o, none⟩) n rs) (hp : p ≤ n) : Rv w (some ⟨b, o, none⟩) p (rs.take p) := by
  have := h.sub (lo := 0) hp
  simpa using this
theorem Lv.first {w : World} {b o n p : Nat} {ps : List Alm} (h : Lv w (some ⟨b, o, none⟩) n ps) (hp : p ≤ n) : Lv w (some ⟨b, o, none⟩) p (ps.take p) := by
  refine ⟨by rw [List.length_take, h.len]; omega, fun h0 => ?_⟩
  obtain ⟨b', o', e, hb, hc⟩ := h.at_ (by omega)
  cases e
  refine ⟨b, o, rfl, hb, fun j hj => ?_⟩
  rw [List.getD_eq_getElem?_getD, List.getElem?_take, if_pos hj, ← List.getD_eq_getElem?_getD]
  exact hc j (by omega)
theorem Lv.zero {w : World} {A : Option Addr} : Lv w A 0 [] := ⟨rfl, fun h => by omega⟩
end Go.Proofs.YtnbnoacadhoimaaGreatDoor
namespace Go.Proofs.YtnbnoacadhoimaaGreatDoor
open Go Go.RowKit Go.Maps

theorem int_key : Keyed Tryz.prog 3 := int_keyed Tryz.underlying3
theorem lit_wf {k : Int} (h : R64 k) : (Lit.int .i64 k).wf = true := by
  obtain ⟨h1, h2⟩ := h
  simp [Lit.wf, IntKind.min, IntKind.max, IntKind.signed, IntKind.bits]; omega
/-- A set of numbers. -/
structure SetI (w : World) (b n : Nat) (D : DataW Unit) (S : List Int) : Prop where
  own : w.ownsMap Tryz.prog 3 (plainElem Tryz.prog 4) b n D
  val : ∀ k : Int, D.atKey (.int .i64 k) (.lit (.bool false)) = .lit (.bool (decide (k ∈ S)))
theorem SetI.made (w : World) : SetI (w.alloc (.map #[] 0)) w.heap.size 0 (.map []) [] :=
  ⟨World.ownsMap_made _ _ _ _, fun k => rfl⟩
theorem SetI.keep {w w' : World} {b n : Nat} {D : DataW Unit} {S : List Int} (h : SetI w b n D S) (hb : Below w.heap.size w w') : SetI w' b n D S :=
  ⟨h.own.kept (row := none) ⟨hb.os, hb.tape, hb.output, hb.size, fun k hk _ => hb.block k hk⟩ (by simp), h.val⟩
theorem SetI.look {w : World} {b n : Nat} {D : DataW Unit} {S : List Int} (h : SetI w b n D S) {k : Int} (hk : R64 k) {r : Bool} (hr : decide (k ∈ S) = r) (j : Nat) : (Instr.lookup 69 (.map (some b)) (.int .i64 k) false).run Tryz.prog (w.drewN j) = .ok (.bool r) (w.drewN j) := by
  have ho : (w.drewN j).ownsMap Tryz.prog 3 (plainElem Tryz.prog 4) b n D := h.own
  obtain ⟨v, ps, hrun, hv⟩ := ho.lookup int_key Tryz.underlying69 (z := .bool false) (by kernel_rfl) (plainElem_bool Tryz.underlying4 false) (keyOf_int_mk Tryz.underlying3 (lit_wf hk))
  rw [h.val k, hr] at hv
  have : v = .bool r := by
    cases v <;> simp [plainElem, Tryz.underlying4] at hv
    rw [hv.1]
  rw [this] at hrun
  exact hrun
theorem SetI.put {w w' : World} {b n : Nat} {D : DataW Unit} {S : List Int} {k : Int} (h : SetI w b n D S) (ho : w'.ownsMap Tryz.prog 3 (plainElem Tryz.prog 4) b (n + 1) (D.put (.int .i64 k) (.lit (.bool true)))) : SetI w' b (n + 1) (D.put (.int .i64 k) (.lit (.bool true))) (S ++ [k]) := by
  refine ⟨ho, fun x => ?_⟩
  by_cases e : x = k
  · subst e
    rw [atKey_put_same (k := .int .i64 x) h.own.isMap (by simp [WideAt.IsKeyLit])]
    simp
  · rw [atKey_put_other (by simpa using e), h.val]
    simp [e]
section
variable {w : World} {A B : Option Addr} {n c d : Nat} {la : List Int} {L : List Nat}
theorem falling_ok (h : Iv w A n la) (h' : Iv w B n (L.map Int.ofNat)) (hn : n ≤ 1000) (h1 : L.Nodup) (h2 : ∀ x ∈ L, x < n) (h3 : ∀ i, 0 < i → i < n → la.getD (L.getD i 0) 0 ≤ la.getD (L.getD (i - 1) 0) 0) :
    Calls Tryz.prog 20 #[.slice A n c, .slice B n d] w fun e w' => e = .returned (.bool true) ∧ Below w.heap.size w w' := by
  have H := qh h
  have H' := qh h'
  have HN := qh (And.intro hn (And.intro h1 (And.intro h2 h3)))
  have hlen : L.length = n := by simpa using h'.len
  have HL := qh hlen
  clear h h' hn h1 h2 h3 hlen
  have hmm := @run_makeMap Tryz.prog
  go_enter Tryz.func20, Tryz.ntmps20
  go_wp2
  go_loopw [16] (fun u wr => ∃ (i : Nat) (D : DataW Unit), u = .int .i64 (i : Int) ∧ i ≤ n ∧ Below w.heap.size w wr ∧ SetI wr w.heap.size i D ((L.take i).map Int.ofNat)) (fun u _ => n - (intOf u).toNat)
  case atStart => exact ⟨0, _, rfl, Nat.zero_le _, bi, SetI.made w⟩
  case round =>
    obtain ⟨i, D, rfl, hin, hb, hS⟩ := hrel
    have _ := bm hb
    have HS := qh hS
    have hnn := HN.out.1
    clear hS
    by_cases hi : i < n
    · have p0 : decide (i < n) = true := by simpa using hi
      have HI := qh hi
      obtain ⟨b, o, rfl, hbl, hat⟩ := (H.out.below hb).at_ (by omega)
      obtain ⟨b', o', rfl, hbl', hat'⟩ := (H'.out.below hb).at_ (by omega)
      have hcast : ∀ j, j < n → (L.map Int.ofNat).getD j 0 = ((L.getD j 0 : Nat) : Int) := fun j hj => by
        have hl : j < L.length := by rw [HL.out]; exact hj
        simp [List.getD_eq_getElem?_getD, hl]
      have k0 := hat' i hi
      rw [hcast i hi] at k0
      obtain ⟨x, hx⟩ : ∃ x, L.getD i 0 = x := ⟨_, rfl⟩
      rw [hx] at k0
      have hxn : x < n := by rw [← hx]; exact HN.out.2.2.1 _ (getD_in (d := 0) (by rw [HL.out]; exact hi))
      have k1 := hat x hxn
      have q1 : decide ((x : Int) < 0) = false := by rw [decide_eq_false_iff_not]; omega
      have q2 : decide ((n : Int) ≤ (x : Int)) = false := by rw [decide_eq_false_iff_not]; omega
      have q3 : decide (n ≤ x) = false := by rw [decide_eq_false_iff_not]; omega
      have hnot : decide ((x : Int) ∈ (L.take i).map Int.ofNat) = false := by
        rw [decide_eq_false_iff_not]
        intro hm
        obtain ⟨y, hy, hyx⟩ := List.mem_map.1 hm
        have hyx : y = x := by have : (y : Int) = (x : Int) := hyx; omega
        subst hyx
        obtain ⟨j, hj, hjy⟩ := List.mem_iff_getElem.1 hy
        rw [List.getElem_take] at hjy
        have hji : j < i := by rw [List.length_take] at hj; omega
        have hxi : L[i]'(by rw [HL.out]; exact hi) = y := by
          rw [← hx, List.getD_eq_getElem?_getD, List.getElem?_eq_getElem (by rw [HL.out]; exact hi)]; rfl
        exact List.pairwise_iff_getElem.1 HN.out.2.1 j i (by rw [HL.out]; omega) (by rw [HL.out]; exact hi) hji (hjy.trans hxi.symm)
      have hlook := fun j => HS.out.look (k := (x : Int)) ⟨by omega, by omega⟩ hnot j
      have hts : (L.take (i + 1)).map Int.ofNat = (L.take i).map Int.ofNat ++ [(x : Int)] := by
        have hl : i < L.length := by rw [HL.out]; exact hi
        rw [List.take_add_one, List.getElem?_eq_getElem hl]
        rw [List.getD_eq_getElem?_getD, List.getElem?_eq_getElem hl] at hx
        simp at hx
        simp [hx]
      have HT := qh hts
      obtain ⟨X, hX⟩ : ∃ y, la.getD x 0 = y := ⟨_, rfl⟩
      rw [hX] at k1
      by_cases hi0 : i = 0
      · subst hi0
        rw [Nat.add_zero] at k0
        have q4 : decide ((0 : Int) < ((0 : Nat) : Int)) = false := by decide
        clear hat hat' hcast hnot hts hX hx
        go_upto_region 7 with (fail)
        go_quiet (fail)
        go_wp2_with (at_mapUpdate; refine wpList_mapUpdate_own _ rfl _ _ _ _ rfl 3 4 int_key Tryz.underlying69 (plainElem Tryz.prog 4) w.heap.size 0 D rfl HS.out.own (by decide) (.int .i64 (x : Int)) (.bool true) (.int .i64 (x : Int)) rfl rfl (keyOf_int_mk Tryz.underlying3 (lit_wf ⟨by omega, by omega⟩)) (.lit (.bool true)) [] (plainElem_bool Tryz.underlying4 true) ?_; intro w5 ho5 hg5)
        have hb5 : RowKit.Below w.heap.size w w5 := Below.trans (bN hb) (grownB hg5 hb.size (fun j hj => by cases hj; exact Nat.le_refl _))
        exact ⟨⟨1, _, by simp, HI.out, hb5, by rw [HT.out]; exact HS.out.put ho5⟩, by have := HI.out; simp [intOf]; omega⟩
      · have q4 : decide ((0 : Int) < (i : Int)) = true := by rw [decide_eq_true_iff]; omega
        have q5 : decide (0 < i) = true := by rw [decide_eq_true_iff]; omega
        have k2 := hat' (i - 1) (by omega)
        rw [hcast (i - 1) (by omega)] at k2
        have h3 := HN.out.2.2.2 i (by omega) hi
        rw [hx, hX] at h3
        obtain ⟨y, hy⟩ : ∃ x, L.getD (i - 1) 0 = x := ⟨_, rfl⟩
        rw [hy] at k2 h3
        have hyn : y < n := by rw [← hy]; exact HN.out.2.2.1 _ (getD_in (d := 0) (by rw [HL.out]; omega))
        have k3 := hat y hyn
        obtain ⟨Y, hY⟩ : ∃ z, la.getD y 0 = z := ⟨_, rfl⟩
        rw [hY] at k3 h3
        have q6 : decide (Y < X) = false := by rw [decide_eq_false_iff_not]; omega
        obtain ⟨p, hp⟩ : ∃ p, i - 1 = p := ⟨_, rfl⟩
        rw [hp] at k2
        have m1 : IntKind.i64.wrap ((i : Int) - 1) = (p : Int) := by rw [smw (by omega)]; omega
        have hpn : p < n := by omega
        clear hat hat' hcast hnot hts hX hx hY hy h3 hp
        go_upto_region 7 with (fail)
        go_quiet (fail)
        go_wp2_with (at_mapUpdate; refine wpList_mapUpdate_own _ rfl _ _ _ _ rfl 3 4 int_key Tryz.underlying69 (plainElem Tryz.prog 4) w.heap.size i D rfl HS.out.own (by unfold maxLen; omega) (.int .i64 (x : Int)) (.bool true) (.int .i64 (x : Int)) rfl rfl (keyOf_int_mk Tryz.underlying3 (lit_wf ⟨by omega, by omega⟩)) (.lit (.bool true)) [] (plainElem_bool Tryz.underlying4 true) ?_; intro w5 ho5 hg5)
        have hb5 : RowKit.Below w.heap.size w w5 := Below.trans (bN hb) (grownB hg5 hb.size (fun j hj => by cases hj; exact Nat.le_refl _))
        exact ⟨⟨i + 1, _, by simp, HI.out, hb5, by rw [HT.out]; exact HS.out.put ho5⟩, by have := HI.out; simp [intOf]; omega⟩
    · have p0 : decide (i < n) = false := by simpa using hi
      clear hi hin
      go_wp2
      go_ret
      exact ⟨rfl, bi⟩
end
end Go.Proofs.YtnbnoacadhoimaaGreatDoor
namespace Go.Proofs.YtnbnoacadhoimaaGreatDoor
open Go Go.RowKit Go.Sort

abbrev OwnL (w : World) (base : Nat) (v : Value) (n : Nat) (vs : List Value) : Prop := w.ownsRow base 31 1 v n vs
theorem l_row : (Tryz.prog.info? 31).map (fun i => (i.zero, i.size, i.bytes)) = some (some (.slice none 0 0), 1, 24) := by kernel_rfl
theorem OwnL.form {w : World} {base n : Nat} {v : Value} {vs : List Value} (h : OwnL w base v n vs) : ∃ A c, v = .slice A n c := by
  rcases h.2 with ⟨rfl, h1⟩ | ⟨g, cap, cur, rfl, _⟩
  · exact ⟨none, 0, by rw [h1]⟩
  · exact ⟨_, _, rfl⟩
theorem OwnL.below {w w' : World} {base n : Nat} {v : Value} {vs : List Value} (h : OwnL w base v n vs) (hb : Below w.heap.size w w') : OwnL w' base v n vs :=
  World.ownsRow.kept h (⟨hb.os, hb.tape, hb.output, hb.size, fun k hk _ => hb.block k hk⟩ : w.grownBy w' none) (by cases hv : v.ownBlock <;> simp)
theorem OwnL.ge {w : World} {base n : Nat} {v : Value} {vs : List Value} (h : OwnL w base v n vs) : ∀ g, v.ownBlock = some g → base ≤ g := fun g hg => (World.ownsRow.lt h g hg).1
theorem OwnL.at {w : World} {base n g c j : Nat} {vs : List Value} {u : Value} (h : OwnL w base (.slice (some ⟨g, 0, none⟩) n c) n vs) (hu : vs[j]? = some u) : w.cell? ⟨g, j, none⟩ = some u := by
  have := World.ownsRow.cells h (g := g) rfl j u hu
  rwa [addZ] at this
/-- A row of rows shares no block with a row of numbers. -/
theorem OwnL.apart {w : World} {b1 b2 n m g c : Nat} {v : Value} {vs : List Value} {zs : List Int} (h : OwnL w b1 v n vs) (k : OwnZ w b2 (.slice (some ⟨g, 0, none⟩) m c) m zs) : v.ownBlock ≠ some g := fun e => by
  rcases h.2 with ⟨rfl, _⟩ | ⟨g1, cap, cur, rfl, _, hg, _⟩
  · cases e
  · cases e
    rcases k.2 with ⟨e, _⟩ | ⟨g2, cap2, cur2, e, _, hg2, _⟩
    · cases e
    · cases e
      rw [hg] at hg2
      cases hg2
theorem app_l {w : World} {base n b c : Nat} {v x : Value} {vs : List Value} (h : OwnL w base v n vs) (hn : n ≤ 100000) (hb : base ≤ w.heap.size) (h0 : w.cell? ⟨b, 0, none⟩ = some x) (hx : x.oneCell' = true) :
    ∃ A' c' w', (Builtin.append_ #[22, 22] 22 #[v, .slice (some ⟨b, 0, none⟩) 1 c]).run Tryz.prog w = .ok (.slice A' (n + 1) c') w' ∧ OwnL w' base (.slice A' (n + 1) c') (n + 1) (vs ++ [x]) ∧ w.grownBy w' v.ownBlock ∧ ((Value.slice A' (n + 1) c').ownBlock = v.ownBlock ∨ (Value.slice A' (n + 1) c').ownBlock = some w.heap.size) := by
  obtain ⟨i, hi, hz0, hz1, hz2⟩ := info_parts l_row
  obtain ⟨v', w', hr, k1, k2, _, k3⟩ := run_append_own_at (P := Tryz.prog) w base 22 22 31 i _ 1 24 Tryz.underlying22 hi hz0 hz1 hz2 rfl (by decide) v n vs h ⟨b, 0, none⟩ 1 c [x] rfl
    (by
      intro j u hu
      rw [addZ]
      match j, hu with
      | 0, hu => simp at hu; subst hu; exact h0
      | j + 1, hu => simp at hu)
    (by intro u hu; rw [List.mem_singleton.1 hu]; exact hx)
    (by simp only [maxLen]; omega) (by omega) hb
  obtain ⟨A', c', rfl⟩ := OwnL.form k1
  exact ⟨A', c', w', hr, k1, k2, k3⟩
/-- The two rows behind i rows of readings. -/
structure Pair (V w : World) (m : Nat) (rs : List (List Int)) (d : Int) (k i : Nat) (Aw : Option Addr) (cw : Nat) (Aa : Option Addr) (ca : Nat) : Prop where
  warm : ∃ vs, OwnL w V.heap.size (.slice Aw i cw) i vs ∧ ∀ j, j < i → ∃ g c, vs[j]? = some (.slice (some ⟨g, 0, none⟩) m c) ∧ OwnZ w V.heap.size (.slice (some ⟨g, 0, none⟩) m c) m ((rs.getD j []).map (· + d))
  alone : ∃ vs, OwnL w V.heap.size (.slice Aa i ca) i vs ∧ ∀ j, j < i → ∃ b o c, vs[j]? = some (.slice (some ⟨b, o, none⟩) 1 c) ∧ V.cell? ⟨b, o, none⟩ = some (.int .i64 (at2 rs j k))
  ne : ∀ g, (Value.slice Aw i cw).ownBlock = some g → (Value.slice Aa i ca).ownBlock ≠ some g
theorem Pair.below {V w w' : World} {m : Nat} {rs : List (List Int)} {d : Int} {k i : Nat} {Aw : Option Addr} {cw : Nat} {Aa : Option Addr} {ca : Nat} (h : Pair V w m rs d k i Aw cw Aa ca) (hb : Below w.heap.size w w') : Pair V w' m rs d k i Aw cw Aa ca := by
  obtain ⟨⟨vs, h1, h2⟩, ⟨us, h3, h4⟩, h5⟩ := h
  refine ⟨⟨vs, h1.below hb, fun j hj => ?_⟩, ⟨us, h3.below hb, h4⟩, h5⟩
  obtain ⟨g, c, e, ho⟩ := h2 j hj
  exact ⟨g, c, e, OwnZ.below ho hb⟩
theorem Pair.nil {V w : World} {m : Nat} {rs : List (List Int)} {d : Int} {k : Nat} : Pair V w m rs d k 0 none 0 none 0 :=
  ⟨⟨[], World.ownsRow_nil _ _ _ _, fun j hj => by omega⟩, ⟨[], World.ownsRow_nil _ _ _ _, fun j hj => by omega⟩, fun g hg => by cases hg⟩
theorem own_keep {w w' : World} {base n : Nat} {e : TypeId} {s : Nat} {v : Value} {vs : List Value} {row : Option Nat} (h : w.ownsRow base e s v n vs) (hg : w.grownBy w' row) (hne : ∀ g, v.ownBlock = some g → row ≠ some g) : w'.ownsRow base e s v n vs := by
  refine World.ownsRow.kept h hg ?_
  cases hv : v.ownBlock with
  | none => exact .inl rfl
  | some g => exact .inr fun e => hne g hv e.symm
/-- One row more on each. -/
theorem Pair.step {V w w5 w6 : World} {m : Nat} {rs : List (List Int)} {d : Int} {k i : Nat} {Aw : Option Addr} {cw : Nat} {Aa : Option Addr} {ca : Nat} {A5 A6 : Option Addr} {c5 c6 g cg b o cb : Nat} (h : Pair V w m rs d k i Aw cw Aa ca)
    (hy : OwnZ w V.heap.size (.slice (some ⟨g, 0, none⟩) m cg) m ((rs.getD i []).map (· + d))) (hz : V.cell? ⟨b, o, none⟩ = some (.int .i64 (at2 rs i k)))
    {vs us : List Value} (hvs : OwnL w V.heap.size (.slice Aw i cw) i vs ∧ ∀ j, j < i → ∃ g c, vs[j]? = some (.slice (some ⟨g, 0, none⟩) m c) ∧ OwnZ w V.heap.size (.slice (some ⟨g, 0, none⟩) m c) m ((rs.getD j []).map (· + d)))
    (hus : OwnL w V.heap.size (.slice Aa i ca) i us ∧ ∀ j, j < i → ∃ b o c, us[j]? = some (.slice (some ⟨b, o, none⟩) 1 c) ∧ V.cell? ⟨b, o, none⟩ = some (.int .i64 (at2 rs j k)))
    {w1 : World} (h1 : w.grownBy w1 none) (hg5 : w1.grownBy w5 (Value.slice Aw i cw).ownBlock) (ho5 : OwnL w5 V.heap.size (.slice A5 (i + 1) c5) (i + 1) (vs ++ [.slice (some ⟨g, 0, none⟩) m cg])) (e5 : (Value.slice A5 (i + 1) c5).ownBlock = (Value.slice Aw i cw).ownBlock ∨ (Value.slice A5 (i + 1) c5).ownBlock = some w1.heap.size)
    {w2 : World} (h2 : w5.grownBy w2 none) (hg6 : w2.grownBy w6 (Value.slice Aa i ca).ownBlock) (ho6 : OwnL w6 V.heap.size (.slice A6 (i + 1) c6) (i + 1) (us ++ [.slice (some ⟨b, o, none⟩) 1 cb])) (e6 : (Value.slice A6 (i + 1) c6).ownBlock = (Value.slice Aa i ca).ownBlock ∨ (Value.slice A6 (i + 1) c6).ownBlock = some w2.heap.size) :
    Pair V w6 m rs d k (i + 1) A5 c5 A6 c6 := by
  have hlv : vs.length = i := by have := hvs.1.1; omega
  have hlu : us.length = i := by have := hus.1.1; omega
  have gt : ∀ {A B C : World} {r : Option Nat}, A.grownBy B none → B.grownBy C r → A.grownBy C r := fun h k => ⟨k.os.trans h.os, k.tape.trans h.tape, k.output.trans h.output, Nat.le_trans h.size k.size, fun i hi hne => (k.block i (Nat.lt_of_lt_of_le hi h.size) hne).trans (h.block i hi (by simp))⟩
  have G5 := gt h1 hg5
  have G6 := gt h2 hg6
  have keepZ : ∀ {g c : Nat} {zs : List Int}, OwnZ w V.heap.size (.slice (some ⟨g, 0, none⟩) m c) m zs → OwnZ w6 V.heap.size (.slice (some ⟨g, 0, none⟩) m c) m zs := fun {g c zs} hq => by
    have q5 : OwnZ w5 V.heap.size (.slice (some ⟨g, 0, none⟩) m c) m zs := own_keep hq G5 (fun g' e => by cases e; exact hvs.1.apart hq)
    have hu5 : OwnL w5 V.heap.size (.slice Aa i ca) i us := own_keep hus.1 G5 (fun g' e e' => h.ne g' e' e)
    exact own_keep q5 G6 (fun g' e => by cases e; exact hu5.apart q5)
  have u5 : OwnL w5 V.heap.size (.slice Aa i ca) i us := own_keep hus.1 G5 (fun g' e e' => h.ne g' e' e)
  have hlt : ∀ g, (Value.slice Aa i ca).ownBlock = some g → g < w.heap.size := fun g hg => (World.ownsRow.lt hus.1 g hg).2
  have hlt5 : ∀ g, (Value.slice A5 (i + 1) c5).ownBlock = some g → g < w5.heap.size := fun g hg => (World.ownsRow.lt ho5 g hg).2
  have ne5 : ∀ g, (Value.slice A5 (i + 1) c5).ownBlock = some g → (Value.slice Aa i ca).ownBlock ≠ some g := fun g hg e => by
    rcases e5 with e5 | e5
    · exact h.ne g (e5 ▸ hg) e
    · rw [e5] at hg
      cases hg
      have := hlt _ e
      have := h1.size
      omega
  refine ⟨⟨_, own_keep ho5 G6 (fun g' e e' => ne5 g' e e'), fun j hj => ?_⟩, ⟨_, ho6, fun j hj => ?_⟩, fun g' e e' => ?_⟩
  · by_cases hji : j < i
    · obtain ⟨g', c', e, hq⟩ := hvs.2 j hji
      exact ⟨g', c', by rw [List.getElem?_append_left (by omega)]; exact e, keepZ hq⟩
    · obtain rfl : j = i := by omega
      exact ⟨g, cg, by rw [List.getElem?_append_right (by omega), hlv, Nat.sub_self]; rfl, keepZ hy⟩
  · by_cases hji : j < i
    · obtain ⟨b', o', c', e, hq⟩ := hus.2 j hji
      exact ⟨b', o', c', by rw [List.getElem?_append_left (by omega)]; exact e, hq⟩
    · obtain rfl : j = i := by omega
      exact ⟨b, o, cb, by rw [List.getElem?_append_right (by omega), hlu, Nat.sub_self]; rfl, hz⟩
  · rcases e6 with e6 | e6
    · exact ne5 g' e (e6 ▸ e')
    · rw [e6] at e'
      cases e'
      have := hlt5 _ e
      have := h2.size
      omega
theorem OwnL.cap {w : World} {base n c : Nat} {A : Option Addr} {vs : List Value} (h : OwnL w base (.slice A n c) n vs) : n ≤ c := by
  rcases h.2 with ⟨e, e0⟩ | ⟨g, cap, cur, e, _, _, h1, _⟩
  · omega
  · cases e; exact h1
theorem Pair.rows {V w : World} {m : Nat} {rs : List (List Int)} {d : Int} {k : Nat} {Aw : Option Addr} {cw : Nat} {Aa : Option Addr} {ca n : Nat} (h : Pair V w m rs d k n Aw cw Aa ca) (hl : rs.length = n) (hm : ∀ z ∈ rs, z.length = m) (hk : k < m) (hV : Below V.heap.size V w) :
    Rv w Aw n (warmL rs d) ∧ Rv w Aa n (aloneL rs k) ∧ n ≤ cw ∧ n ≤ ca := by
  obtain ⟨⟨vs, h1, h2⟩, ⟨us, h3, h4⟩, _⟩ := h
  have hrow : ∀ j, j < n → (rs.getD j []).length = m := fun j hj => hm _ (getD_in (by omega))
  refine ⟨⟨by unfold warmL; rw [List.length_map, hl], fun h0 => ?_⟩, ⟨by unfold aloneL; rw [List.length_map, hl], fun h0 => ?_⟩, h1.cap, h3.cap⟩
  · rcases h1.2 with ⟨e, e0⟩ | ⟨g, cap, cur, e, _, hg, _⟩
    · omega
    · cases e
      refine ⟨g, 0, rfl, (Array.getElem?_eq_some_iff.1 hg).1, fun j hj => ?_⟩
      obtain ⟨g', c', e, hz⟩ := h2 j hj
      refine ⟨_, m, c', by rw [Nat.zero_add]; exact OwnL.at h1 e, ?_⟩
      have : (warmL rs d).getD j [] = (rs.getD j []).map (· + d) := by
        unfold warmL
        rw [List.getD_eq_getElem?_getD, List.getElem?_map, List.getD_eq_getElem?_getD, List.getElem?_eq_getElem (by omega)]; rfl
      rw [this]
      exact OwnZ.iv hz (by rw [List.length_map, hrow j hj])
  · rcases h3.2 with ⟨e, e0⟩ | ⟨g, cap, cur, e, _, hg, _⟩
    · omega
    · cases e
      refine ⟨g, 0, rfl, (Array.getElem?_eq_some_iff.1 hg).1, fun j hj => ?_⟩
      obtain ⟨b, o, c', e, hz⟩ := h4 j hj
      refine ⟨_, 1, c', by rw [Nat.zero_add]; exact OwnL.at h3 e, ?_⟩
      have : (aloneL rs k).getD j [] = [at2 rs j k] := by
        unfold aloneL at2
        have hj' : j < rs.length := by omega
        have hr := hrow j hj
        rw [List.getD_eq_getElem?_getD, List.getElem?_eq_getElem hj'] at hr
        rw [List.getD_eq_getElem?_getD, List.getElem?_map, List.getD_eq_getElem?_getD (l := rs), List.getElem?_eq_getElem hj']
        simp only [Option.map_some, Option.getD_some] at hr ⊢
        rw [List.drop_eq_getElem_cons (by omega), List.getD_eq_getElem?_getD, List.getElem?_eq_getElem (by omega)]
        rfl
      rw [this]
      have hc := cell_on hV hz
      refine ⟨rfl, fun _ => ⟨b, o, rfl, World.block_lt_of_cell? w _ hc, fun i hi => ?_⟩⟩
      obtain rfl : i = 0 := by omega
      exact hc
theorem gen_l {o : Oper} {a : Act} {K : Act → World → Prop} {Q : Exit → Act → World → Prop} {w : World} {base n b c : Nat} {v x : Value} {vs : List Value} (s y : Operand)
    (ho : o.op = .call { callee := .builtin .append, args := #[s, y], argTypes := #[22, 22] }) (ht : o.type = 22) (hs : a.eval s = v) (hy : a.eval y = .slice (some ⟨b, 0, none⟩) 1 c)
    (h : OwnL w base v n vs) (hn : n ≤ 100000) (hb : base ≤ w.heap.size) (h0 : w.cell? ⟨b, 0, none⟩ = some x) (hx : x.oneCell' = true)
    (hK : ∀ A' c' w', OwnL w' base (.slice A' (n + 1) c') (n + 1) (vs ++ [x]) → w.grownBy w' v.ownBlock → ((Value.slice A' (n + 1) c').ownBlock = v.ownBlock ∨ (Value.slice A' (n + 1) c').ownBlock = some w.heap.size) → K (a.put o.dst (.slice A' (n + 1) c')) w') : o.wp Tryz.prog a w K Q := by
  obtain ⟨A', c', w', hr, k1, k2, k3⟩ := app_l h hn hb h0 hx
  exact gen_z s y ho hs hy (by rw [ht]; exact hr) (hK A' c' w' k1 k2 k3)
theorem below_grown {w w' : World} (h : Below w.heap.size w w') : w.grownBy w' none := ⟨h.os, h.tape, h.output, h.size, fun k hk _ => h.block k hk⟩
theorem below_src {W w1 w5 : World} {row : Option Nat} (_ : w1.grownBy w5 row) (h : Below W.heap.size W w1) : Below W.heap.size W w1 := h
theorem grown_then {A B C : World} {r : Option Nat} (h : A.grownBy B none) (k : B.grownBy C r) : A.grownBy C r :=
  ⟨k.os.trans h.os, k.tape.trans h.tape, k.output.trans h.output, Nat.le_trans h.size k.size, fun i hi hne => (k.block i (Nat.lt_of_lt_of_le hi h.size) hne).trans (h.block i hi (by simp))⟩
end Go.Proofs.YtnbnoacadhoimaaGreatDoor
