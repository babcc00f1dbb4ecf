/- The reference's alarms of a sensor at a time. -/
import Derived.Test.YtnbnoacadhoimaaGreatDoorCcG
set_option linter.unusedSimpArgs false
set_option linter.unusedVariables false
set_option maxRecDepth 100000
set_option maxHeartbeats 8000000
namespace Go.Proofs.YtnbnoacadhoimaaGreatDoor
open Go Go.RowKit Go.Sort

/-- n earlier rows from the i-th on. -/
def rsR (x : Wt) (rs : List (List Int)) (t k : Nat) : Nat → Nat → Bool
  | 0, _ => false
  | n + 1, i => (decide ((t : Int) - (i : Int) ≤ x.i) && decide (x.r ≤ at2 rs t k - at2 rs i k)) || rsR x rs t k n (i + 1)
theorem rsR_iff (x : Wt) (rs : List (List Int)) (t k : Nat) : ∀ n i, rsR x rs t k n i = true ↔ ∃ j, i ≤ j ∧ j < i + n ∧ (t : Int) - (j : Int) ≤ x.i ∧ x.r ≤ at2 rs t k - at2 rs j k
  | 0, i => by simp only [rsR]; constructor; (intro h; cases h); (rintro ⟨j, h⟩; omega)
  | n + 1, i => by
    rw [rsR, Bool.or_eq_true, Bool.and_eq_true, decide_eq_true_iff, decide_eq_true_iff, rsR_iff x rs t k n (i + 1)]
    constructor
    · rintro (⟨h1, h2⟩ | ⟨j, h1, h2, h3⟩)
      · exact ⟨i, Nat.le_refl _, by omega, h1, h2⟩
      · exact ⟨j, by omega, by omega, h3⟩
    · rintro ⟨j, h1, h2, h3, h4⟩
      by_cases e : j = i
      · subst e; exact .inl ⟨h3, h4⟩
      · exact .inr ⟨j, by omega, by omega, h3, h4⟩
theorem any_take {l : List (List Int)} {a n : Nat} (f : List Int → Bool) (h : a + n ≤ l.length) : ((l.drop a).take n).any f = true ↔ ∃ j, a ≤ j ∧ j < a + n ∧ f (l.getD j []) = true := by
  rw [List.any_eq_true]
  constructor
  · rintro ⟨z, hz, hf⟩
    obtain ⟨i, hi, rfl⟩ := List.mem_iff_getElem.1 hz
    rw [List.length_take, List.length_drop] at hi
    refine ⟨a + i, by omega, by omega, ?_⟩
    rw [List.getElem_take, List.getElem_drop] at hf
    rwa [List.getD_eq_getElem?_getD, List.getElem?_eq_getElem (by omega)]
  · rintro ⟨j, h1, h2, hf⟩
    refine ⟨l.getD j [], ?_, hf⟩
    rw [List.mem_iff_getElem]
    refine ⟨j - a, by rw [List.length_take, List.length_drop]; omega, ?_⟩
    rw [List.getElem_take, List.getElem_drop, List.getD_eq_getElem?_getD, List.getElem?_eq_getElem (by omega)]
    simp [Nat.add_sub_cancel' h1]
theorem rsR_rise {x : Wt} {rs : List (List Int)} {t k : Nat} (ht : t ≤ rs.length) (hx : 1 ≤ x.i) : rsR x rs t k t 0 = riseB x rs t k := by
  have hl : lo x t + (t - lo x t) ≤ rs.length := by unfold lo; omega
  rw [Bool.eq_iff_iff, rsR_iff]
  unfold riseB
  rw [any_take _ hl]
  constructor
  · rintro ⟨j, h1, h2, h3, h4⟩
    refine ⟨j, by unfold lo; omega, by unfold lo; omega, ?_⟩
    rw [decide_eq_true_iff]; exact h4
  · rintro ⟨j, h1, h2, h3⟩
    rw [decide_eq_true_iff] at h3
    unfold lo at h1 h2
    exact ⟨j, by omega, by omega, by omega, h3⟩
/-- The neighbours among n sensors from the i-th on, c of them seen. -/
def spR (x : Wt) (rs : List (List Int)) (t k : Nat) : Nat → Nat → Nat → Bool
  | 0, _, c => decide (0 < c)
  | n + 1, i, c => if i + 1 = k ∨ i = k + 1 then (decide (x.o ≤ at2 rs t k - at2 rs t i) && spR x rs t k n (i + 1) (c + 1)) else spR x rs t k n (i + 1) c
theorem spR_iff (x : Wt) (rs : List (List Int)) (t k : Nat) : ∀ n i c, spR x rs t k n i c = true ↔ ((0 < c ∨ ∃ j, i ≤ j ∧ j < i + n ∧ (j + 1 = k ∨ j = k + 1)) ∧ ∀ j, i ≤ j → j < i + n → (j + 1 = k ∨ j = k + 1) → x.o ≤ at2 rs t k - at2 rs t j)
  | 0, i, c => by
    rw [spR, decide_eq_true_iff]
    constructor
    · intro h; exact ⟨.inl h, fun j h1 h2 => by omega⟩
    · rintro ⟨h | ⟨j, h1, h2, _⟩, _⟩
      · exact h
      · omega
  | n + 1, i, c => by
    rw [spR]
    by_cases e : i + 1 = k ∨ i = k + 1
    · rw [if_pos e, Bool.and_eq_true, decide_eq_true_iff, spR_iff x rs t k n (i + 1) (c + 1)]
      constructor
      · rintro ⟨h1, _, h3⟩
        refine ⟨.inr ⟨i, Nat.le_refl _, by omega, e⟩, fun j a b d => ?_⟩
        by_cases q : j = i
        · subst q; exact h1
        · exact h3 j (by omega) (by omega) d
      · rintro ⟨_, h⟩
        exact ⟨h i (Nat.le_refl _) (by omega) e, .inl (by omega), fun j a b d => h j (by omega) (by omega) d⟩
    · rw [if_neg e, spR_iff x rs t k n (i + 1) c]
      constructor
      · rintro ⟨h1, h2⟩
        refine ⟨h1.elim .inl fun ⟨j, a, b, d⟩ => .inr ⟨j, by omega, by omega, d⟩, fun j a b d => ?_⟩
        by_cases q : j = i
        · subst q; exact absurd d e
        · exact h2 j (by omega) (by omega) d
      · rintro ⟨h1, h2⟩
        refine ⟨h1.elim .inl fun ⟨j, a, b, d⟩ => .inr ⟨j, ?_, by omega, d⟩, fun j a b d => h2 j (by omega) (by omega) d⟩
        by_cases q : j = i
        · subst q; exact absurd d e
        · omega
theorem near_mem {m : Nat} {rs : List (List Int)} {t k : Nat} (hk : k < m) {v : Int} : v ∈ nearL m rs t k ↔ ∃ j, j < m ∧ (j + 1 = k ∨ j = k + 1) ∧ v = at2 rs t j := by
  unfold nearL
  rw [List.mem_append]
  constructor
  · rintro (h | h)
    · split at h
      · rw [List.mem_singleton] at h; exact ⟨k - 1, by omega, .inl (by omega), h⟩
      · cases h
    · split at h
      · rw [List.mem_singleton] at h; exact ⟨k + 1, by omega, .inr rfl, h⟩
      · cases h
  · rintro ⟨j, h1, h2 | h2, rfl⟩
    · refine .inl ?_
      rw [if_pos (by omega), List.mem_singleton, show k - 1 = j by omega]
    · refine .inr ?_
      subst h2
      rw [if_pos h1, List.mem_singleton]
theorem spR_spot {x : Wt} {m : Nat} {rs : List (List Int)} {t k : Nat} (hk : k < m) : spR x rs t k m 0 0 = spotB x m rs t k := by
  rw [Bool.eq_iff_iff, spR_iff]
  unfold spotB
  rw [Bool.and_eq_true, List.all_eq_true]
  have e1 : (!(nearL m rs t k).isEmpty) = true ↔ ∃ v, v ∈ nearL m rs t k := by
    cases nearL m rs t k with
    | nil => simp
    | cons a l => exact ⟨fun _ => ⟨a, by simp⟩, fun _ => by simp⟩
  rw [e1]
  constructor
  · rintro ⟨h1, h2⟩
    refine ⟨?_, fun v hv => ?_⟩
    · rcases h1 with h1 | ⟨j, _, a, b⟩
      · omega
      · exact ⟨_, (near_mem hk).2 ⟨j, by omega, b, rfl⟩⟩
    · obtain ⟨j, a, b, rfl⟩ := (near_mem hk).1 hv
      rw [decide_eq_true_iff]
      exact h2 j (by omega) (by omega) b
  · rintro ⟨⟨v, hv⟩, h2⟩
    obtain ⟨j, a, b, _⟩ := (near_mem hk).1 hv
    refine ⟨.inr ⟨j, by omega, by omega, b⟩, fun i _ c d => ?_⟩
    have := h2 _ ((near_mem hk).2 ⟨i, by omega, d, rfl⟩)
    rwa [decide_eq_true_iff] at this
section
variable {w : World} {A : Option Addr} {n c m t k : Nat} {rs : List (List Int)} {x : Wt}
theorem rhot_ok {g : Bool} (hr : hotB x rs t k = g) (h : Rv w A n rs) (hg : Good m rs) (ht : t < n) (hk : k < m) :
    Calls Tryz.prog 58 #[.slice A n c, wtv x, .int .i64 (t : Int), .int .i64 (k : Int)] w fun e w' => e = .returned (.bool g) ∧ Below w.heap.size w w' := by
  obtain ⟨xa, xr, xi, xo⟩ := x
  obtain ⟨b, o, rfl, hbl, hat⟩ := h.at_ (by omega)
  obtain ⟨B, l, e, k0, kv⟩ := hat t ht
  have hlm : l = m := by rw [← hg.len _ (getD_in (d := ([] : List Int)) (show t < rs.length by rw [h.len]; exact ht))]; exact kv.len.symm
  subst hlm
  obtain ⟨b', o', rfl, hbl', hat'⟩ := kv.at_ (by omega)
  have k1 := hat' k hk
  have hown := hg.at (t := t) (k := k) (by rw [h.len]; exact ht) hk
  obtain ⟨own, ho⟩ : ∃ z, (rs.getD t []).getD k 0 = z := ⟨_, rfl⟩
  have HOWN : Hid (at2 rs t k = own) := qh ho
  rw [ho] at k1
  rw [HOWN.out] at hown
  unfold hotB at hr
  rw [HOWN.out] at hr
  clear h hat hat' kv hg hown ho
  go_enter Tryz.func58, Tryz.ntmps58
  go_upto_region 1 with (fail)
  go_quiet (fail)
  go_wp2
  go_ret
  exact ⟨rfl, bi⟩
theorem rrises_ok {g : Bool} (hr : riseB x rs t k = g) (h : Rv w A n rs) (hg : Good m rs) (hx : watchB x = true) (ht : t < n) (hk : k < m) :
    Calls Tryz.prog 59 #[.slice A n c, wtv x, .int .i64 (t : Int), .int .i64 (k : Int)] w fun e w' => e = .returned (.bool g) ∧ Below w.heap.size w w' := by
  obtain ⟨xa, xr, xi, xo⟩ := x
  have hw := hx
  simp only [watchB, inB, Bool.and_eq_true, decide_eq_true_eq] at hw
  have q6 := hw.2.2.2.1
  rw [← rsR_rise (by rw [h.len]; omega) q6] at hr
  have hlen : n ≤ 1000 := by rw [← h.len]; exact hg.few
  obtain ⟨b, o, rfl, hbl, hat⟩ := h.at_ (by omega)
  obtain ⟨B, l, e, k0, kv⟩ := hat t ht
  have hlm : l = m := by rw [← hg.len _ (getD_in (d := ([] : List Int)) (show t < rs.length by rw [h.len]; exact ht))]; exact kv.len.symm
  subst hlm
  obtain ⟨b', o', rfl, hbl', hat'⟩ := kv.at_ (by omega)
  have k1 := hat' k hk
  have hown := hg.at (t := t) (k := k) (by rw [h.len]; exact ht) hk
  obtain ⟨own, ho⟩ : ∃ z, (rs.getD t []).getD k 0 = z := ⟨_, rfl⟩
  have HOWN : Hid (at2 rs t k = own) := qh ho
  rw [ho] at k1
  rw [HOWN.out] at hown
  have HG := qh hg
  have HAT := qh hat
  have HR := qh hr
  have HH := qh h
  have HK := qh (And.intro hk (And.intro ht (And.intro hlen hown)))
  have ht1 : t ≤ 1000 := by omega
  clear h hat hat' kv hg hown ho hr hx hw q6 hlen
  go_enter Tryz.func59, Tryz.ntmps59
  go_upto_region 2 with (fail)
  have BX := Blk.new w 24 #[.int .i64 xa, .int .i64 xr, .int .i64 xi, .int .i64 xo]
  have c0 := BX.cell 1
  have c1 := BX.cell 2
  have zX := BX.lt
  simp only [List.getElem?_toArray, List.getElem?_cons_zero, List.getElem?_cons_succ] at c0 c1
  have bV : Below w.heap.size w (w.alloc (.cells #[.int .i64 xa, .int .i64 xr, .int .i64 xi, .int .i64 xo] 24)) := bi
  obtain ⟨V, hV⟩ : ∃ V, w.alloc (.cells #[.int .i64 xa, .int .i64 xr, .int .i64 xi, .int .i64 xo] 24) = V := ⟨_, rfl⟩
  rw [hV] at c0 c1 zX bV ⊢
  clear hV BX
  replace k0 := cell_on bV k0
  replace k1 := cell_on bV k1
  have zb : b < V.heap.size := World.block_lt_of_cell? V _ k0
  have zb' : b' < V.heap.size := World.block_lt_of_cell? V _ k1
  go_loopw [9] (fun u wr => ∃ (i : Nat), u = .int .i64 (i : Int) ∧ i ≤ t ∧ Below V.heap.size V wr ∧ rsR ⟨xa, xr, xi, xo⟩ rs t k (t - i) i = g) (fun u _ => t - (intOf u).toNat)
  case atStart => exact ⟨0, rfl, Nat.zero_le _, bi, HR.out⟩
  case round =>
    obtain ⟨i, rfl, hit, hb, hc⟩ := hrel
    have _ := bm hb
    have HC := qh hc
    clear hc
    replace k0 := cell_on hb k0
    replace k1 := cell_on hb k1
    replace c0 := cell_on hb c0
    replace c1 := cell_on hb c1
    by_cases hi : i < t
    · have p0 : decide (i < t) = true := by simpa using hi
      have HI := qh hi
      obtain ⟨B2, l2, e2, k2, kv2⟩ := HAT.out i (by have := HK.out.2.1; omega)
      have hl2 : l2 = l := by rw [← HG.out.len _ (getD_in (d := ([] : List Int)) (show i < rs.length by rw [HH.out.len]; have := HK.out.2.1; omega))]; exact kv2.len.symm
      subst hl2
      obtain ⟨b2, o2, rfl, hbl2, hat2⟩ := kv2.at_ (by have := HK.out.1; omega)
      have k3 := hat2 k HK.out.1
      have hz := HG.out.at (t := i) (k := k) (by rw [HH.out.len]; have := HK.out.2.1; omega) HK.out.1
      obtain ⟨z, hz2⟩ : ∃ z, (rs.getD i []).getD k 0 = z := ⟨_, rfl⟩
      rw [hz2] at k3
      rw [show at2 rs i k = z from hz2] at hz
      replace k2 := cell_on hb (cell_on bV k2)
      replace k3 := cell_on hb (cell_on bV k3)
      have hc := HC.out
      rw [show t - i = (t - (i + 1)) + 1 by omega, rsR, HOWN.out, show at2 rs i k = z from hz2] at hc
      have m1 : IntKind.i64.wrap (own - z) = own - z := by
        have := HK.out.2.2.2
        simp [IntKind.wrap, IntKind.bits, IntKind.signed]; omega
      have m0 : IntKind.i64.wrap ((t : Int) - (i : Int)) = (t : Int) - (i : Int) := by
        simp [IntKind.wrap, IntKind.bits, IntKind.signed]; omega
      have hkl := HK.out.1
      have htn := HK.out.2.1
      have hin : i < n := by omega
      have zb2 : b2 < wr.heap.size := World.block_lt_of_cell? wr _ k3
      have zb3 : b < wr.heap.size := World.block_lt_of_cell? wr _ k0
      have zb4 : b' < wr.heap.size := World.block_lt_of_cell? wr _ k1
      clear hat2 kv2 hz hz2 hit hbl2
      dsimp only at hc
      by_cases g1 : (t : Int) - (i : Int) ≤ xi
      · have p1 : decide ((t : Int) - (i : Int) ≤ xi) = true := by simpa using g1
        rw [p1, Bool.true_and] at hc
        obtain ⟨f, hf⟩ : ∃ f, decide (xr ≤ own - z) = f := ⟨_, rfl⟩
        rw [hf] at hc
        clear g1
        cases f with
        | true =>
          obtain rfl : true = g := by simpa using hc
          clear hc HC HR
          go_upto_region 4 with (fail)
          go_quiet (fail)
          go_wp2
          go_ret
          exact ⟨rfl, below_step bV bi⟩
        | false =>
          have HC2 : Hid (rsR ⟨xa, xr, xi, xo⟩ rs t k (t - (i + 1)) (i + 1) = g) := qh (by simpa using hc)
          clear hc HC HR
          go_upto_region 4 with (fail)
          go_quiet (fail)
          go_wp2
          exact ⟨⟨i + 1, by simp, HI.out, bi, HC2.out⟩, by have := HI.out; simp [intOf]; omega⟩
      · have p1 : decide ((t : Int) - (i : Int) ≤ xi) = false := by simpa using g1
        rw [p1, Bool.false_and, Bool.false_or] at hc
        have HC2 := qh hc
        clear hc HC HR g1
        go_upto_region 4 with (fail)
        go_quiet (fail)
        go_wp2
        exact ⟨⟨i + 1, by simp, HI.out, bi, HC2.out⟩, by have := HI.out; simp [intOf]; omega⟩
    · have p0 : decide (i < t) = false := by simpa using hi
      have hc := HC.out
      rw [show t - i = 0 by omega, rsR] at hc
      obtain rfl : false = g := hc
      clear HC HR hi hit
      go_wp2
      go_ret
      exact ⟨rfl, below_step bV hb⟩
theorem rspot_ok {g : Bool} (hr : spotB x m rs t k = g) (h : Rv w A n rs) (hg : Good m rs) (hx : watchB x = true) (ht : t < n) (hk : k < m) :
    Calls Tryz.prog 60 #[.slice A n c, wtv x, .int .i64 (t : Int), .int .i64 (k : Int)] w fun e w' => e = .returned (.bool g) ∧ Below w.heap.size w w' := by
  obtain ⟨xa, xr, xi, xo⟩ := x
  rw [← spR_spot hk] at hr
  have hm64 := hg.m64
  obtain ⟨b, o, rfl, hbl, hat⟩ := h.at_ (by omega)
  obtain ⟨B, l, e, k0, kv⟩ := hat t ht
  have hlm : l = m := by rw [← hg.len _ (getD_in (d := ([] : List Int)) (show t < rs.length by rw [h.len]; exact ht))]; exact kv.len.symm
  subst hlm
  obtain ⟨b', o', rfl, hbl', hat'⟩ := kv.at_ (by omega)
  have k1 := hat' k hk
  have hown := hg.at (t := t) (k := k) (by rw [h.len]; exact ht) hk
  obtain ⟨own, ho⟩ : ∃ z, (rs.getD t []).getD k 0 = z := ⟨_, rfl⟩
  have HOWN : Hid (at2 rs t k = own) := qh ho
  rw [ho] at k1
  rw [HOWN.out] at hown
  have HG := qh hg
  have HAT := qh hat'
  have HR := qh hr
  have HH := qh h
  have HK := qh (And.intro hk (And.intro ht (And.intro hm64 hown)))
  have hk1 : k ≤ 1000 := by omega
  clear h hat hat' kv hg hown ho hr hx hm64
  go_enter Tryz.func60, Tryz.ntmps60
  go_upto_region 3 with (fail)
  have BX := Blk.new w 24 #[.int .i64 xa, .int .i64 xr, .int .i64 xi, .int .i64 xo]
  have c0 := BX.cell 3
  have zX := BX.lt
  simp only [List.getElem?_toArray, List.getElem?_cons_zero, List.getElem?_cons_succ] at c0
  have bV : Below w.heap.size w (w.alloc (.cells #[.int .i64 xa, .int .i64 xr, .int .i64 xi, .int .i64 xo] 24)) := bi
  obtain ⟨V, hV⟩ : ∃ V, w.alloc (.cells #[.int .i64 xa, .int .i64 xr, .int .i64 xi, .int .i64 xo] 24) = V := ⟨_, rfl⟩
  rw [hV] at c0 zX bV ⊢
  clear hV BX
  replace k0 := cell_on bV k0
  replace k1 := cell_on bV k1
  have zb : b < V.heap.size := World.block_lt_of_cell? V _ k0
  have zb' : b' < V.heap.size := World.block_lt_of_cell? V _ k1
  go_loopw [9, 10] (fun v u wr => ∃ (i p : Nat), u = .int .i64 (i : Int) ∧ v = .int .i64 (p : Int) ∧ i ≤ l ∧ p ≤ i ∧ Below V.heap.size V wr ∧ spR ⟨xa, xr, xi, xo⟩ rs t k (l - i) i p = g) (fun _ u _ => l - (intOf u).toNat)
  case atStart => exact ⟨0, 0, rfl, rfl, Nat.zero_le _, Nat.le_refl _, bi, HR.out⟩
  case round =>
    obtain ⟨i, p, rfl, rfl, hit, hpi, hb, hc⟩ := hrel
    have _ := bm hb
    have HC := qh hc
    clear hc
    replace k0 := cell_on hb k0
    replace k1 := cell_on hb k1
    replace c0 := cell_on hb c0
    have hl64 := HK.out.2.2.1
    have htn := HK.out.2.1
    have zb3 : b < wr.heap.size := World.block_lt_of_cell? wr _ k0
    by_cases hi : i < l
    · have p0 : decide (i < l) = true := by simpa using hi
      have HI := qh hi
      have hc := HC.out
      rw [show l - i = (l - (i + 1)) + 1 by omega, spR] at hc
      have hp1 : p ≤ 1000 := by omega
      by_cases hq : i + 1 = k ∨ i = k + 1
      · rw [if_pos hq] at hc
        have k3 := cell_on hb (cell_on bV (HAT.out i hi))
        have hz := HG.out.at (t := t) (k := i) (by rw [HH.out.len]; exact htn) hi
        obtain ⟨z, hz2⟩ : ∃ z, (rs.getD t []).getD i 0 = z := ⟨_, rfl⟩
        rw [hz2] at k3
        rw [show at2 rs t i = z from hz2] at hz hc
        rw [HOWN.out] at hc
        dsimp only at hc
        have m1 : IntKind.i64.wrap (own - z) = own - z := by
          have := HK.out.2.2.2
          simp [IntKind.wrap, IntKind.bits, IntKind.signed]; omega
        have zb4 : b' < wr.heap.size := World.block_lt_of_cell? wr _ k1
        have hkl := HK.out.1
        obtain ⟨f, hf⟩ : ∃ f, decide (xo ≤ own - z) = f := ⟨_, rfl⟩
        have hf2 : decide (own - z < xo) = !f := by rw [← hf, Bool.eq_iff_iff]; simp
        rw [hf] at hc
        clear hz hz2 hf HR
        have HPI := qh hpi
        clear hpi hit
        obtain ⟨f1, e1⟩ : ∃ f, ((i : Int) == (k : Int) - 1) = f := ⟨_, rfl⟩
        obtain ⟨f2, e2⟩ : ∃ f, ((i : Int) == (k : Int) + 1) = f := ⟨_, rfl⟩
        have e3 : (f1 || f2) = true := by rw [← e1, ← e2]; simp; omega
        clear hq
        cases f with
        | true =>
          have HC2 : Hid (spR ⟨xa, xr, xi, xo⟩ rs t k (l - (i + 1)) (i + 1) (p + 1) = g) := qh (by simpa using hc)
          clear hc HC
          cases f1 with
          | true =>
            clear e3
            go_upto_region 7 with (fail)
            go_quiet (fail)
            go_wp2
            exact ⟨⟨i + 1, p + 1, by simp, by simp, HI.out, by have := HPI.out; omega, bi, HC2.out⟩, by have := HI.out; simp [intOf]; omega⟩
          | false =>
            obtain rfl : f2 = true := by simpa using e3
            clear e3
            go_upto_region 7 with (fail)
            go_quiet (fail)
            go_wp2
            exact ⟨⟨i + 1, p + 1, by simp, by simp, HI.out, by have := HPI.out; omega, bi, HC2.out⟩, by have := HI.out; simp [intOf]; omega⟩
        | false =>
          obtain rfl : false = g := by simpa using hc
          clear hc HC
          cases f1 with
          | true =>
            clear e3
            go_upto_region 7 with (fail)
            go_quiet (fail)
            go_wp2
            go_ret
            exact ⟨rfl, below_step bV bi⟩
          | false =>
            obtain rfl : f2 = true := by simpa using e3
            clear e3
            go_upto_region 7 with (fail)
            go_quiet (fail)
            go_wp2
            go_ret
            exact ⟨rfl, below_step bV bi⟩
      · rw [if_neg hq] at hc
        have HC2 := qh hc
        have HPI := qh hpi
        have e1 : ((i : Int) == (k : Int) - 1) = false := by rw [beq_eq_false_iff_ne]; omega
        have e2 : ((i : Int) == (k : Int) + 1) = false := by rw [beq_eq_false_iff_ne]; omega
        clear hc HC hq hpi hit HR
        go_wp2
        exact ⟨⟨i + 1, p, by simp, by simp, HI.out, by have := HPI.out; omega, bi, HC2.out⟩, by have := HI.out; simp [intOf]; omega⟩
    · have p0 : decide (i < l) = false := by simpa using hi
      have hc := HC.out
      rw [show l - i = 0 by omega, spR] at hc
      clear HC HR hi hit hpi
      go_wp2
      go_ret
      exact ⟨rfl, below_step bV bi⟩
end

abbrev txt (l : List UInt8) : Value := .string ⟨l.toArray⟩
/-- An alarm: time, sensor, kind. -/
abbrev Alm := Int × Int × List UInt8
def kindT : Nat → List UInt8
  | 0 => [104, 111, 116]
  | 1 => [114, 105, 115, 101]
  | _ => [115, 112, 111, 116]
def kindB (x : Wt) (m : Nat) (rs : List (List Int)) (t k : Nat) : Nat → Bool
  | 0 => hotB x rs t k
  | 1 => riseB x rs t k
  | _ => spotB x m rs t k
/-- The first j kinds of a sensor's alarms. -/
def alJ (x : Wt) (m : Nat) (rs : List (List Int)) (t k : Nat) : Nat → List Alm
  | 0 => []
  | j + 1 => alJ x m rs t k j ++ if kindB x m rs t k j then [((t : Int), (k : Int), kindT j)] else []
def alK (x : Wt) (m : Nat) (rs : List (List Int)) (t : Nat) : Nat → List Alm
  | 0 => []
  | k + 1 => alK x m rs t k ++ alJ x m rs t k 3
def alT (x : Wt) (m : Nat) (rs : List (List Int)) : Nat → List Alm
  | 0 => []
  | t + 1 => alT x m rs t ++ alK x m rs t m
theorem alJ_len (x : Wt) (m : Nat) (rs : List (List Int)) (t k : Nat) : ∀ j, (alJ x m rs t k j).length ≤ j
  | 0 => Nat.le_refl _
  | j + 1 => by
    rw [alJ, List.length_append]
    have := alJ_len x m rs t k j
    split <;> simp <;> omega
theorem alK_len (x : Wt) (m : Nat) (rs : List (List Int)) (t : Nat) : ∀ k, (alK x m rs t k).length ≤ 3 * k
  | 0 => Nat.le_refl _
  | k + 1 => by
    rw [alK, List.length_append]
    have := alK_len x m rs t k
    have := alJ_len x m rs t k 3
    omega
theorem alT_len (x : Wt) (m : Nat) (rs : List (List Int)) : ∀ t, (alT x m rs t).length ≤ 3 * m * t
  | 0 => Nat.le_refl _
  | t + 1 => by
    rw [alT, List.length_append, Nat.mul_add, Nat.mul_one]
    have := alT_len x m rs t
    have := alK_len x m rs t m
    omega
theorem alJ_snoc {x : Wt} {m : Nat} {rs : List (List Int)} {t k : Nat} (L : List Alm) (j : Nat) : L ++ alJ x m rs t k (j + 1) = (L ++ alJ x m rs t k j) ++ if kindB x m rs t k j then [((t : Int), (k : Int), kindT j)] else [] := by
  rw [alJ, List.append_assoc]
def almC (p : Alm) : List Value := [.int .i64 p.1, .int .i64 p.2.1, txt p.2.2]
def alms (ps : List Alm) : List Value := ps.flatMap almC
theorem alms_append (a b : List Alm) : alms (a ++ b) = alms a ++ alms b := by simp [alms]
theorem alms_len (a : List Alm) : (alms a).length = a.length * 3 := by
  induction a with
  | nil => rfl
  | cons x r ih => rw [show alms (x :: r) = alms [x] ++ alms r from alms_append [x] r, List.length_append, ih]; simp [alms, almC]; omega
theorem alms_at : ∀ (a : List Alm) (j k : Nat), j < a.length → k < 3 → (alms a)[j * 3 + k]? = (almC (a.getD j (0, 0, [])))[k]?
  | [], j, k, h, _ => absurd h (by simp)
  | q :: r, 0, k, _, hk => by
    rw [show alms (q :: r) = alms [q] ++ alms r from alms_append [q] r, List.getElem?_append_left (by simp [alms, almC]; omega)]; simp [alms]
  | q :: r, j + 1, k, h, hk => by
    rw [show alms (q :: r) = alms [q] ++ alms r from alms_append [q] r, List.getElem?_append_right (by simp [alms, almC]; omega)]
    have e : (j + 1) * 3 + k - (alms [q]).length = j * 3 + k := by simp [alms, almC]; omega
    rw [e, alms_at r j k (by simpa using h) hk]; simp
abbrev OwnA (w : World) (base : Nat) (v : Value) (n : Nat) (ps : List Alm) : Prop := w.ownsRow base 46 3 v n (alms ps)
theorem alm_row : (Tryz.prog.info? 46).map (fun i => (i.zero, i.size, i.bytes)) = some (some (.agg #[.int .i64 0, .int .i64 0, .string ByteArray.empty]), 3, 32) := by kernel_rfl
/-- A slice of alarms. -/
structure Lv (w : World) (A : Option Addr) (n : Nat) (ps : List Alm) : Prop where
  len : ps.length = n
  at_ : 0 < n → ∃ b o, A = some ⟨b, o, none⟩ ∧ b < w.heap.size ∧ ∀ j, j < n → w.cell? ⟨b, o + j * 3, none⟩ = some (.int .i64 (ps.getD j (0, 0, [])).1) ∧ w.cell? ⟨b, o + j * 3 + 1, none⟩ = some (.int .i64 (ps.getD j (0, 0, [])).2.1) ∧ w.cell? ⟨b, o + j * 3 + 2, none⟩ = some (txt (ps.getD j (0, 0, [])).2.2)
theorem Lv.below {w w' : World} {A : Option Addr} {n : Nat} {ps : List Alm} (h : Lv w A n ps) (hb : Below w.heap.size w w') : Lv w' A n ps :=
  ⟨h.len, fun hn => by
    obtain ⟨b, o, e, h1, h2⟩ := h.at_ hn
    exact ⟨b, o, e, Nat.lt_of_lt_of_le h1 hb.size, fun j hj => ⟨(hb.cell (p := ⟨b, o + j * 3, none⟩) h1).trans (h2 j hj).1, (hb.cell (p := ⟨b, o + j * 3 + 1, none⟩) h1).trans (h2 j hj).2.1, (hb.cell (p := ⟨b, o + j * 3 + 2, none⟩) h1).trans (h2 j hj).2.2⟩⟩⟩
theorem OwnA.lv {w : World} {base n c : Nat} {A : Option Addr} {ps : List Alm} (h : OwnA w base (.slice A n c) n ps) (hl : ps.length = n) : Lv w A n ps := by
  refine ⟨hl, fun h0 => ?_⟩
  rcases h.2 with ⟨h1, h2⟩ | ⟨g, cap, cur, e, hb, hg, hnc, hcm, hcs, ht⟩
  · omega
  · cases e
    refine ⟨g, 0, rfl, (Array.getElem?_eq_some_iff.1 hg).1, fun j hj => ?_⟩
    have hc := World.ownsRow.cells h (g := g) rfl
    have c (k : Nat) (hk : k < 3) (u : Value) (hu : (almC (ps.getD j (0, 0, [])))[k]? = some u) : w.cell? ⟨g, 0 + j * 3 + k, none⟩ = some u := by
      have := hc (j * 3 + k) u (by rw [alms_at ps j k (by omega) hk, hu])
      rw [addZ] at this
      rw [Nat.zero_add]; exact this
    exact ⟨c 0 (by omega) _ rfl, c 1 (by omega) _ rfl, c 2 (by omega) _ rfl⟩
theorem OwnA.slice {w : World} {base n : Nat} {v : Value} {ps : List Alm} (h : OwnA w base v n ps) : ∃ A c, v = .slice A n c := by
  rcases h.2 with ⟨rfl, h1⟩ | ⟨g, cap, cur, rfl, _⟩
  · exact ⟨none, 0, by rw [h1]⟩
  · exact ⟨_, _, rfl⟩
theorem OwnA.below {w w' : World} {base n : Nat} {v : Value} {ps : List Alm} (h : OwnA w base v n ps) (hb : Below w.heap.size w w') : OwnA w' base v n ps :=
  World.ownsRow.kept h (⟨hb.os, hb.tape, hb.output, hb.size, fun k hk _ => hb.block k hk⟩ : w.grownBy w' none) (by cases hv : v.ownBlock <;> simp)
theorem OwnA.ge {w : World} {base n : Nat} {v : Value} {ps : List Alm} (h : OwnA w base v n ps) : ∀ g, v.ownBlock = some g → base ≤ g := fun g hg => (World.ownsRow.lt h g hg).1
theorem OwnA.n {w : World} {base n : Nat} {v : Value} {ps : List Alm} (h : OwnA w base v n ps) : ps.length = n := by
  have := h.1
  rw [alms_len] at this
  omega
theorem app_a {w : World} {base n b c : Nat} {v : Value} {ps : List Alm} {x : Alm} (h : OwnA w base v n ps) (hn : n ≤ 100000) (hb : base ≤ w.heap.size)
    (h0 : w.cell? ⟨b, 0, none⟩ = some (.int .i64 x.1)) (h1 : w.cell? ⟨b, 1, none⟩ = some (.int .i64 x.2.1)) (h2 : w.cell? ⟨b, 2, none⟩ = some (txt x.2.2)) :
    ∃ A' c' w', (Builtin.append_ #[27, 27] 27 #[v, .slice (some ⟨b, 0, none⟩) 1 c]).run Tryz.prog w = .ok (.slice A' (n + 1) c') w' ∧ OwnA w' base (.slice A' (n + 1) c') (n + 1) (ps ++ [x]) ∧ w.grownBy w' v.ownBlock ∧ ((Value.slice A' (n + 1) c').ownBlock = v.ownBlock ∨ (Value.slice A' (n + 1) c').ownBlock = some w.heap.size) := by
  obtain ⟨i, hi, hz0, hz1, hz2⟩ := info_parts alm_row
  obtain ⟨v', w', hr, k1, k2, _, k3⟩ := run_append_own_at (P := Tryz.prog) w base 27 27 46 i _ 3 32 Tryz.underlying27 hi hz0 hz1 hz2 rfl (by decide) v n (alms ps) h ⟨b, 0, none⟩ 1 c (almC x) (by simp [almC])
    (by
      intro j u hu
      rw [addZ]
      match j, hu with
      | 0, hu => simp [almC] at hu; subst hu; exact h0
      | 1, hu => simp [almC] at hu; subst hu; exact h1
      | 2, hu => simp [almC] at hu; subst hu; exact h2
      | j + 3, hu => simp [almC] at hu)
    (by intro u hu; simp [almC] at hu; rcases hu with rfl | rfl | rfl <;> rfl)
    (by simp only [maxLen]; omega) (by omega) hb
  have k4 : OwnA w' base v' (n + 1) (ps ++ [x]) := by rw [OwnA, alms_append]; simpa [alms] using k1
  obtain ⟨A', c', rfl⟩ := k4.slice
  exact ⟨A', c', w', hr, k4, k2, k3⟩
theorem wpList_append_a {ops : Array Oper} {rest : List Oper} {o : Oper} {a : Act} {Q : Exit → Act → World → Prop} {w : World} {base n b c : Nat} {v : Value} {ps : List Alm} {x : Alm} (hg : o.guard = none) (s y : Operand)
    (ho : o.op = .call { callee := .builtin .append, args := #[s, y], argTypes := #[27, 27] }) (ht : o.type = 27) (hs : a.eval s = v) (hy : a.eval y = .slice (some ⟨b, 0, none⟩) 1 c)
    (h : OwnA w base v n ps) (hn : n ≤ 100000) (hb : base ≤ w.heap.size) (h0 : w.cell? ⟨b, 0, none⟩ = some (.int .i64 x.1)) (h1 : w.cell? ⟨b, 1, none⟩ = some (.int .i64 x.2.1)) (h2 : w.cell? ⟨b, 2, none⟩ = some (txt x.2.2))
    (hK : ∀ A' c' w', OwnA w' base (.slice A' (n + 1) c') (n + 1) (ps ++ [x]) → w.grownBy w' v.ownBlock → ((Value.slice A' (n + 1) c').ownBlock = v.ownBlock ∨ (Value.slice A' (n + 1) c').ownBlock = some w.heap.size) → wpList Tryz.prog ops Q rest (a.put o.dst (.slice A' (n + 1) c')) w') : wpList Tryz.prog ops Q (o :: rest) a w := by
  obtain ⟨A', c', w', hr, k1, k2, k3⟩ := app_a h hn hb h0 h1 h2
  refine wpList_plain hg fun K' hK' => ?_
  exact gen_z s y ho hs hy (by rw [ht]; exact hr) (hK' _ _ (hK A' c' w' k1 k2 k3))
/-- Below, over an append to a row of one's own. -/
theorem below_app {a w w' : World} {base : Nat} {v : Value} {o : Obj} {n : Nat} {ps : List Alm} (hb : Below base a w) (h : OwnA w base v n ps) (hz : base ≤ w.heap.size) (hg : (w.alloc o).grownBy w' v.ownBlock) : Below base a w' :=
  Below.trans (hb.alloc hz o) (grownB hg (by rw [World.size_alloc]; omega) (fun j hj => h.ge j hj))
end Go.Proofs.YtnbnoacadhoimaaGreatDoor
namespace Go.Proofs.YtnbnoacadhoimaaGreatDoor
open Go Go.RowKit

theorem drop_dec {α : Type} [DecidableEq α] {a b : List α} {i : Nat} {d : α} (ha : i < a.length) (hb : i < b.length) : decide (a.drop i = b.drop i) = (decide (a.getD i d = b.getD i d) && decide (a.drop (i + 1) = b.drop (i + 1))) := by
  have h1 : a.drop i = a.getD i d :: a.drop (i + 1) := by rw [List.drop_eq_getElem_cons ha, List.getD_eq_getElem?_getD, List.getElem?_eq_getElem ha]; rfl
  have h2 : b.drop i = b.getD i d :: b.drop (i + 1) := by rw [List.drop_eq_getElem_cons hb, List.getD_eq_getElem?_getD, List.getElem?_eq_getElem hb]; rfl
  rw [Bool.eq_iff_iff, Bool.and_eq_true, decide_eq_true_iff, decide_eq_true_iff, decide_eq_true_iff, h1, h2, List.cons.injEq]
section
variable {w : World} {A B : Option Addr} {n m c d : Nat} {ps qs : List Alm}
theorem sameAlarms_ne (h : n ≠ m) : Calls Tryz.prog 18 #[.slice A n c, .slice B m d] w fun e w' => e = .returned (.bool false) ∧ Below w.heap.size w w' := by
  have q0 : ((n : Int) == (m : Int)) = false := by rw [beq_eq_false_iff_ne]; omega
  have q1 : (n == m) = false := by rw [beq_eq_false_iff_ne]; exact h
  go_enter Tryz.func18, Tryz.ntmps18
  go_wp2
  go_ret
  exact ⟨rfl, bi⟩
theorem sameAlarms_eq {r : Bool} (h : Lv w A n ps) (h' : Lv w B n qs) (hn : n ≤ 100000) (hr : decide (ps = qs) = r) : Calls Tryz.prog 18 #[.slice A n c, .slice B n d] w fun e w' => e = .returned (.bool r) ∧ Below w.heap.size w w' := by
  have H := qh h
  have H' := qh h'
  have HN := qh hn
  have HR := qh hr
  clear h h' hn hr
  go_enter Tryz.func18, Tryz.ntmps18
  go_wp2
  go_loopw [5] (fun u wr => ∃ (i : Nat), u = .int .i64 (i : Int) ∧ i ≤ n ∧ Below w.heap.size w wr ∧ decide (ps.drop i = qs.drop i) = r) (fun u _ => n - (intOf u).toNat)
  case atStart => exact ⟨0, rfl, Nat.zero_le _, bi, HR.out⟩
  case round =>
    obtain ⟨i, rfl, hin, hb, hc⟩ := hrel
    have _ := bm hb
    have hnn := HN.out
    by_cases hi : i < n
    · have p0 : decide (i < n) = true := by simpa using hi
      obtain ⟨b, o, rfl, hbl, hat⟩ := (H.out.below hb).at_ (by omega)
      obtain ⟨b', o', rfl, hbl', hat'⟩ := (H'.out.below hb).at_ (by omega)
      obtain ⟨k0, k1, k2⟩ := hat i hi
      obtain ⟨k3, k4, k5⟩ := hat' i hi
      rw [drop_dec (d := (0, 0, [])) (by rw [H.out.len]; exact hi) (by rw [H'.out.len]; exact hi)] at hc
      obtain ⟨⟨x1, x2, x3⟩, hx⟩ : ∃ x, ps.getD i (0, 0, []) = x := ⟨_, rfl⟩
      obtain ⟨⟨y1, y2, y3⟩, hy⟩ : ∃ x, qs.getD i (0, 0, []) = x := ⟨_, rfl⟩
      rw [hx] at k0 k1 k2 hc
      rw [hy] at k3 k4 k5 hc
      dsimp only at k0 k1 k2 k3 k4 k5
      have HII := qh hi
      clear hat hat' hx hy
      by_cases hx1 : x1 = y1
      · subst hx1
        by_cases hx2 : x2 = y2
        · subst hx2
          by_cases hx3 : x3 = y3
          · subst hx3
            have HC : Hid (decide (ps.drop (i + 1) = qs.drop (i + 1)) = r) := qh (by simpa using hc)
            clear hc
            go_upto_region 6 with (fail)
            go_quiet (fail)
            go_wp2
            exact ⟨⟨i + 1, by simp, HII.out, bi, HC.out⟩, by have := HII.out; simp [intOf]; omega⟩
          · have q0 : (x3 == y3) = false := by rw [beq_eq_false_iff_ne]; exact hx3
            have hR : r = false := by rw [← hc]; simp [hx3]
            subst hR
            clear hc
            go_upto_region 6 with (fail)
            go_quiet (fail)
            go_wp2
            go_ret
            exact ⟨rfl, bi⟩
        · have q0 : (x2 == y2) = false := by rw [beq_eq_false_iff_ne]; exact hx2
          have q1 : (x2 != y2) = true := by rw [bne_iff_ne]; exact hx2
          have hR : r = false := by rw [← hc]; simp [hx2]
          subst hR
          clear hc
          go_upto_region 6 with (fail)
          go_quiet (fail)
          go_wp2
          go_ret
          exact ⟨rfl, bi⟩
      · have q0 : (x1 == y1) = false := by rw [beq_eq_false_iff_ne]; exact hx1
        have q1 : (x1 != y1) = true := by rw [bne_iff_ne]; exact hx1
        have hR : r = false := by rw [← hc]; simp [hx1]
        subst hR
        clear hc
        go_upto_region 6 with (fail)
        go_quiet (fail)
        go_wp2
        go_ret
        exact ⟨rfl, bi⟩
    · have p0 : decide (i < n) = false := by simp; omega
      rw [List.drop_eq_nil_of_le (by rw [H.out.len]; omega), List.drop_eq_nil_of_le (by rw [H'.out.len]; omega)] at hc
      have hR : r = true := by rw [← hc]; rfl
      subst hR
      clear hc hi
      go_wp2
      go_ret
      exact ⟨rfl, bi⟩
theorem sameAlarms_fact {r : Bool} (h : Lv w A n ps) (h' : Lv w B m qs) (hn : n ≤ 100000) (hr : decide (ps = qs) = r) : Calls Tryz.prog 18 #[.slice A n c, .slice B m d] w fun e w' => e = .returned (.bool r) ∧ Below w.heap.size w w' := by
  by_cases e : n = m
  · subst e; exact sameAlarms_eq h h' hn hr
  · have hR : r = false := by
      rw [← hr, decide_eq_false_iff_not]
      rintro rfl
      exact e (h.len.symm.trans h'.len)
    subst hR
    exact sameAlarms_ne e
end
section
variable {w : World} {A B : Option Addr} {n m c d : Nat} {zs ys : List Int}
theorem ints_ne (h : n ≠ m) : Calls Tryz.prog 16 #[.slice A n c, .slice B m d] w fun e w' => e = .returned (.bool false) ∧ Below w.heap.size w w' := by
  have q0 : ((n : Int) == (m : Int)) = false := by rw [beq_eq_false_iff_ne]; omega
  have q1 : (n == m) = false := by rw [beq_eq_false_iff_ne]; exact h
  go_enter Tryz.func16, Tryz.ntmps16
  go_wp2
  go_ret
  exact ⟨rfl, bi⟩
theorem ints_eq {r : Bool} (h : Iv w A n zs) (h' : Iv w B n ys) (hn : n ≤ 100000) (hr : decide (zs = ys) = r) : Calls Tryz.prog 16 #[.slice A n c, .slice B n d] w fun e w' => e = .returned (.bool r) ∧ Below w.heap.size w w' := by
  have H := qh h
  have H' := qh h'
  have HN := qh hn
  have HR := qh hr
  clear h h' hn hr
  go_enter Tryz.func16, Tryz.ntmps16
  go_wp2
  go_loopw [5] (fun u wr => ∃ (i : Nat), u = .int .i64 (i : Int) ∧ i ≤ n ∧ Below w.heap.size w wr ∧ decide (zs.drop i = ys.drop i) = r) (fun u _ => n - (intOf u).toNat)
  case atStart => exact ⟨0, rfl, Nat.zero_le _, bi, HR.out⟩
  case round =>
    obtain ⟨i, rfl, hin, hb, hc⟩ := hrel
    have _ := bm hb
    have hnn := HN.out
    by_cases hi : i < n
    · have p0 : decide (i < n) = true := by simpa using hi
      obtain ⟨b, o, rfl, hbl, hat⟩ := (H.out.below hb).at_ (by omega)
      obtain ⟨b', o', rfl, hbl', hat'⟩ := (H'.out.below hb).at_ (by omega)
      have k0 := hat i hi
      have k1 := hat' i hi
      rw [drop_dec (d := 0) (by rw [H.out.len]; exact hi) (by rw [H'.out.len]; exact hi)] at hc
      obtain ⟨x, hx⟩ : ∃ x, zs.getD i 0 = x := ⟨_, rfl⟩
      obtain ⟨y, hy⟩ : ∃ y, ys.getD i 0 = y := ⟨_, rfl⟩
      rw [hx] at k0 hc
      rw [hy] at k1 hc
      have HII := qh hi
      clear hat hat' hx hy
      by_cases hxy : x = y
      · subst hxy
        have HC : Hid (decide (zs.drop (i + 1) = ys.drop (i + 1)) = r) := qh (by simpa using hc)
        clear hc
        go_upto_region 6 with (fail)
        go_quiet (fail)
        go_wp2
        exact ⟨⟨i + 1, by simp, HII.out, bi, HC.out⟩, by have := HII.out; simp [intOf]; omega⟩
      · have q0 : (x == y) = false := by rw [beq_eq_false_iff_ne]; exact hxy
        have q1 : (x != y) = true := by rw [bne_iff_ne]; exact hxy
        have hR : r = false := by rw [← hc]; simp [hxy]
        subst hR
        clear hc
        go_upto_region 6 with (fail)
        go_quiet (fail)
        go_wp2
        go_ret
        exact ⟨rfl, bi⟩
    · have p0 : decide (i < n) = false := by simp; omega
      rw [List.drop_eq_nil_of_le (by rw [H.out.len]; omega), List.drop_eq_nil_of_le (by rw [H'.out.len]; omega)] at hc
      have hR : r = true := by rw [← hc]; rfl
      subst hR
      clear hc hi
      go_wp2
      go_ret
      exact ⟨rfl, bi⟩
theorem ints_fact {r : Bool} (h : Iv w A n zs) (h' : Iv w B m ys) (hn : n ≤ 100000) (hr : decide (zs = ys) = r) : Calls Tryz.prog 16 #[.slice A n c, .slice B m d] w fun e w' => e = .returned (.bool r) ∧ Below w.heap.size w w' := by
  by_cases e : n = m
  · subst e; exact ints_eq h h' hn hr
  · have hR : r = false := by
      rw [← hr, decide_eq_false_iff_not]
      rintro rfl
      exact e (h.len.symm.trans h'.len)
    subst hR
    exact ints_ne e
theorem lfirst_ok {r : Int} (h : Iv w A n zs) (hn : n ≤ 1000) (hr : fnz zs = r) : Calls Tryz.prog 15 #[.slice A n c] w fun e w' => e = .returned (.int .i64 r) ∧ Below w.heap.size w w' := by
  have H := qh h
  have HN := qh hn
  have HR := qh hr
  clear h hn hr
  go_enter Tryz.func15, Tryz.ntmps15
  go_wp2
  go_loopw [7] (fun u wr => ∃ (i : Nat), u = .int .i64 (i : Int) ∧ i ≤ n ∧ Below w.heap.size w wr ∧ fnz (zs.drop i) = r) (fun u _ => n - (intOf u).toNat)
  case atStart => exact ⟨0, rfl, Nat.zero_le _, bi, HR.out⟩
  case round =>
    obtain ⟨i, rfl, hin, hb, hc⟩ := hrel
    have _ := bm hb
    have hnn := HN.out
    by_cases hi : i < n
    · have p0 : decide (i < n) = true := by simpa using hi
      obtain ⟨b, o, rfl, hbl, hat⟩ := (H.out.below hb).at_ (by omega)
      have k0 := hat i hi
      rw [drop_cons (by rw [H.out.len]; exact hi)] at hc
      obtain ⟨x, hx⟩ : ∃ x, zs.getD i 0 = x := ⟨_, rfl⟩
      rw [hx] at k0 hc
      clear hat
      by_cases hx0 : x = 0
      · subst hx0
        have hc2 : fnz (zs.drop (i + 1)) = r := by
          rw [← hc]; conv => rhs; unfold fnz
          rw [if_pos rfl]
        clear hc
        go_wp2
        go_roundw
        case rel => exact ⟨i + 1, by simp, by omega, bi, hc2⟩
        case measure => simp [intOf]; omega
      · have hR : x = r := by
          rw [← hc]; unfold fnz; rw [if_neg hx0]
        subst hR
        clear hc
        go_wp2
        go_ret
        exact ⟨rfl, bi⟩
    · have : i = n := by omega
      subst this
      have p0 : decide (i < i) = false := by simp
      rw [List.drop_eq_nil_of_le (by rw [H.out.len]; exact Nat.le_refl _)] at hc
      have hR : r = 0 := hc.symm
      subst hR
      go_wp2
      go_ret
      exact ⟨rfl, bi⟩
end
end Go.Proofs.YtnbnoacadhoimaaGreatDoor
