/- Plain: the order in which the places are sorted. -/
import Derived.Test.YtoccfcpggomlaaaGreatDoorTfG
set_option linter.unusedSimpArgs false
set_option linter.unusedVariables false
set_option maxRecDepth 100000
set_option maxHeartbeats 8000000
namespace Go.Proofs.YtoccfcpggomlaaaGreatDoor
open Go Go.RowKit

abbrev ids (m : Nat) : Array (Fin (m + 1)) := Array.ofFn (fun i : Fin (m + 1) => i)
/-- The order of the places. -/
def apD (t s : Int) (ws : List Int) (m : Nat) : Array (Fin (m + 1)) := Sort.insertionSort (ltOf (cfR t s ws)) (ids m) 0 (ids m).size
def apL (t s : Int) (ws : List Int) (m : Nat) : List Nat := (apD t s ws m).toList.map Fin.val
theorem ltOf_key (t s : Int) (ws : List Int) (m : Nat) : ltOf (cfR t s ws (n := m + 1)) = Stab.ltKey (fun x : Fin (m + 1) => t * ws.getD x.val 0 % s) := by
 funext x y
 unfold ltOf Stab.ltKey cfR Lib.compareInt
 rw [decide_eq_decide]
 split
 ·rename_i h; constructor
  ·intro _; exact h
  ·intro _; decide
 ·split
  ·rename_i h _; constructor
   ·intro h1; cases h1
   ·intro h1; exact absurd h1 h
  ·rename_i h _; constructor
   ·intro h1; cases h1
   ·intro h1; exact absurd h1 h
theorem ids_size (m : Nat) : (ids m).size = m + 1 := by simp
theorem ids_at {m p : Nat} (h : p < m + 1) : (ids m)[p]! = ⟨p, h⟩ := by
 rw [getElem!_pos _ p (by rw [ids_size]; exact h)]; simp
theorem apD_sorted (t s : Int) (ws : List Int) (m : Nat) : Sort.PermIn 0 (m + 1) (ids m) (apD t s ws m) ∧ Sort.SortedIn (Stab.ltLex (fun x : Fin (m + 1) => t * ws.getD x.val 0 % s) Fin.val) 0 (m + 1) (apD t s ws m) := by
 have h := Stab.sort_stable (fun x : Fin (m + 1) => t * ws.getD x.val 0 % s) Fin.val (ids m) (fun p q h1 h2 => by
  rw [ids_size] at h2
  rw [ids_at (by omega), ids_at h2]; exact h1)
 rw [ids_size] at h
 have e : apD t s ws m = Sort.insertionSort (Stab.ltKey (fun x : Fin (m + 1) => t * ws.getD x.val 0 % s)) (ids m) 0 (m + 1) := by
  unfold apD; rw [ltOf_key, ids_size]
 rw [e]; exact h
theorem apD_size (t s : Int) (ws : List Int) (m : Nat) : (apD t s ws m).size = m + 1 := by
 rw [(apD_sorted t s ws m).1.1, ids_size]
theorem apD_perm (t s : Int) (ws : List Int) (m : Nat) : (apD t s ws m).toList.Perm (ids m).toList := by
 have h := (apD_sorted t s ws m).1.2.2
 have e : ∀ (a : Array (Fin (m + 1))) (k : Nat), a.size = k → a.extract 0 k = a := fun a k hk => by subst hk; simp
 rw [e _ _ (apD_size t s ws m), e _ _ (ids_size m)] at h
 exact h
theorem ids_list (m : Nat) : (ids m).toList.map Fin.val = List.range (m + 1) := by
 apply List.ext_getElem
 ·simp
 ·intro i h1 h2
  rw [List.getElem_map, List.getElem_range]
  have h3 : i < m + 1 := by simpa using h2
  rw [Array.getElem_toList, ← getElem!_pos _ i (by rw [ids_size]; exact h3), ids_at h3]
theorem apL_perm (t s : Int) (ws : List Int) (m : Nat) : (apL t s ws m).Perm (List.range (m + 1)) := by
 rw [← ids_list]; exact (apD_perm t s ws m).map _
theorem apL_len (t s : Int) (ws : List Int) (m : Nat) : (apL t s ws m).length = m + 1 := by
 rw [(apL_perm t s ws m).length_eq]; simp
theorem apL_at {t s : Int} {ws : List Int} {m p : Nat} (h : p < m + 1) : (apL t s ws m)[p]'(by rw [apL_len]; exact h) = ((apD t s ws m)[p]!).val := by
 rw [getElem!_pos _ p (by rw [apD_size]; exact h)]; simp [apL]
theorem apL_order (t s : Int) (ws : List Int) (m : Nat) : App.Order (App.rem t s (fun j => ws.getD j 0)) (m + 1) (apL t s ws m) where
 len := apL_len t s ws m
 mem i := by rw [(apL_perm t s ws m).mem_iff]; simp
 nodup := (apL_perm t s ws m).nodup_iff.2 List.nodup_range
 sorted i j hi hj := by
  rw [apL_len] at hj
  have h := (apD_sorted t s ws m).2 i j (Nat.zero_le _) hi hj
  rw [apL_at hj, apL_at (show i < m + 1 by omega)]
  simp only [Stab.ltLex, decide_eq_false_iff_not] at h
  show ¬ (t * ws.getD _ 0 % s < t * ws.getD _ 0 % s ∨ t * ws.getD _ 0 % s = t * ws.getD _ 0 % s ∧ _ < _)
  intro h1
  apply h
  exact h1

/-- A row of integers. -/
def irow (zs : List Int) : Array Value := (zs.map (Value.int .i64)).toArray
theorem irow_at {zs : List Int} {j : Nat} (h : j < zs.length) : (irow zs)[j]? = some (.int .i64 (zs.getD j 0)) := by
 simp [irow, List.getD_eq_getElem?_getD, h]
theorem irow_put (zs : List Int) (i : Nat) (z : Int) : (irow zs).setIfInBounds i (.int .i64 z) = irow (zs.set i z) := by
 simp [irow, List.map_set]
theorem info_int : (Tryz.prog.info? 3).map (fun i => (i.zero, i.size, i.bytes)) = some (some (.int .i64 0), 1, 8) := by kernel_rfl
theorem madeCells_int (l : Nat) : madeCells #[Value.int .i64 0] (l * 1) = irow (List.replicate l 0) := by
 apply Array.ext
 ·simp [madeCells, irow]
 ·intro i h1 h2
  simp [madeCells, irow, Nat.mod_one]
theorem make_int (l : Nat) (hl : l < 1099511627776) (W : World) :
  (Instr.makeSlice 22 (.int .i64 (l : Int)) (.int .i64 (l : Int))).run Tryz.prog W = .ok (.slice (some ⟨W.heap.size, 0, none⟩) l l) (W.alloc (.cells (irow (List.replicate l 0)) 3)) := by
 obtain ⟨i0, hi, hz0, hz1, hz2⟩ := info_parts info_int
 have hr := run_make (P := Tryz.prog) W 22 3 i0 (.int .i64 0) Tryz.underlying22 hi hz0 .i64 .i64 (l : Int) (l : Int) (by omega) (by omega) (by rw [hz2]; omega) (by omega)
 simp only [Int.toNat_natCast, hz1] at hr
 rw [hr, show (Value.int IntKind.i64 0).cells = #[Value.int .i64 0] from rfl, madeCells_int]

/-- The first i values of a function, and zeros. -/
def upto (f : Nat → Int) (n i : Nat) : List Int := (List.range n).map fun j => if j < i then f j else 0
theorem upto_len (f : Nat → Int) (n i : Nat) : (upto f n i).length = n := by simp [upto]
theorem upto_zero (f : Nat → Int) (n : Nat) : upto f n 0 = List.replicate n 0 := by
 apply List.ext_getElem
 ·simp [upto]
 ·intro i h1 h2; simp [upto]
theorem upto_set (f : Nat → Int) (n i : Nat) : (upto f n i).set i (f i) = upto f n (i + 1) := by
 apply List.ext_getElem
 ·simp [upto]
 ·intro j h1 h2
  rw [List.getElem_set]
  simp only [upto, List.getElem_map, List.getElem_range]
  by_cases h : i = j
  ·subst h; simp
  ·rw [if_neg h]
   by_cases h3 : j < i
   ·rw [if_pos h3, if_pos (by omega)]
   ·rw [if_neg h3, if_neg (by omega)]
theorem upto_at {f : Nat → Int} {n i j : Nat} (hj : j < n) : (upto f n i).getD j 0 = if j < i then f j else 0 := by
 simp [upto, List.getD_eq_getElem?_getD, hj]

/-- The rounds of the first loop: i parts and places are set. -/
structure A1 (w wr : World) (b6 n c i : Nat) (A : Option Addr) (t s : Int) (q : Nat → Int) : Prop where
 bO : Blk wr (b6 + 1) 3 (irow (upto q n i))
 bP : Blk wr (b6 + 1 + 1) 3 (irow (upto (fun j => (j : Int)) n i))
 c2 : wr.cell? ⟨w.heap.size, 0, none⟩ = some (.int .i64 t)
 c3 : wr.cell? ⟨w.heap.size + 1, 0, none⟩ = some (.slice A n c)
 c4 : wr.cell? ⟨b6, 0, none⟩ = some (.int .i64 s)
 bel : Below w.heap.size w wr
 sz : w.heap.size + 1 < b6

theorem sumTo_mono {f : Nat → Int} (h : ∀ j, 0 ≤ f j) : ∀ {i n : Nat}, i ≤ n → App.sumTo f i ≤ App.sumTo f n := by
 intro i n hin
 induction n with
 | zero => have : i = 0 := by omega
           subst this; exact Int.le_refl _
 | succ n ih =>
   rcases Nat.lt_or_ge i (n + 1) with h1 | h1
   ·have := ih (by omega)
    have := h n
    simp only [App.sumTo]; omega
   ·have : i = n + 1 := by omega
    subst this; exact Int.le_refl _
theorem heap_putRow {α : Type} [Inhabited α] (enc : α → Value) (w : World) (blk off : Nat) (d : Array α) {g : Nat} (h : g ≠ blk) : (Sort.putRow enc w blk off d).heap[g]? = w.heap[g]? := by
 unfold Sort.putRow Sort.mapBlock
 simp only [Array.getElem?_modify]
 rw [if_neg (Ne.symm h)]
theorem Blk.putRow {α : Type} [Inhabited α] {enc : α → Value} {w : World} {blk off g T : Nat} {cs : Array Value} {d : Array α} (h : Blk w g T cs) (hg : g ≠ blk) : Blk (Sort.putRow enc w blk off d) g T cs := by
 show (Sort.putRow enc w blk off d).heap[g]? = _
 rw [heap_putRow _ _ _ _ _ hg]; exact h
theorem below_put {α : Type} [Inhabited α] {enc : α → Value} {B : Nat} {a w : World} {blk off : Nat} {d : Array α} (h : Below B a w) (hb : B ≤ blk) : Below B a (Sort.putRow enc w blk off d) :=
 ⟨h.os, h.tape, h.output, by rw [Sort.size_putRow]; exact h.size, fun k hk => by
   rw [heap_putRow _ _ _ _ _ (by omega)]; exact h.block k hk⟩
/-- The parts when j of the places have one more. -/
def outs (t s : Int) (f : Nat → Int) (L : List Nat) (n j : Nat) : List Int := (List.range n).map (App.out t s f L j)
theorem outs_len (t s : Int) (f : Nat → Int) (L : List Nat) (n j : Nat) : (outs t s f L n j).length = n := by simp [outs]
theorem outs_at {t s : Int} {f : Nat → Int} {L : List Nat} {n j p : Nat} (h : p < n) : (outs t s f L n j).getD p 0 = App.out t s f L j p := by
 simp [outs, List.getD_eq_getElem?_getD, h]
theorem outs_zero (t s : Int) (f : Nat → Int) (L : List Nat) (n : Nat) : outs t s f L n 0 = upto (App.quo t s f) n n := by
 apply List.ext_getElem
 ·simp [outs, upto]
 ·intro i h1 h2
  have : i < n := by simpa [outs] using h1
  simp [outs, upto, App.out, this]
theorem outs_step {t s : Int} {f : Nat → Int} {L : List Nat} {n j : Nat} (hn : L.Nodup) (hj : j < L.length) : (outs t s f L n j).set L[j] (App.out t s f L j L[j] + 1) = outs t s f L n (j + 1) := by
 have hno : L[j] ∉ L.take j := fun h => by have := (App.nodup_take hn hj).1 h; omega
 have hsu : ∀ i, i ∈ L.take (j + 1) ↔ i ∈ L.take j ∨ i = L[j] := fun i => by rw [List.take_succ_eq_append_getElem hj, List.mem_append, List.mem_singleton]
 apply List.ext_getElem
 ·simp [outs]
 ·intro i h1 h2
  rw [List.getElem_set]
  simp only [outs, List.getElem_map, List.getElem_range]
  unfold App.out
  by_cases h : L[j] = i
  ·subst h
   rw [if_pos rfl, if_neg hno, if_pos ((hsu _).2 (Or.inr rfl))]
   omega
  ·rw [if_neg h]
   by_cases h3 : i ∈ L.take j
   ·rw [if_pos h3, if_pos ((hsu _).2 (Or.inl h3))]
   ·rw [if_neg h3, if_neg (fun h4 => ((hsu _).1 h4).elim h3 (fun e => h e.symm))]

/-- The rounds of the second loop: the row of parts. -/
structure A2 (w wr V : World) (b6 n : Nat) (zs : List Int) : Prop where
 bO : Blk wr (b6 + 1) 3 (irow zs)
 bel : Below w.heap.size w wr
 pl : ∀ j, wr.cell? ⟨b6 + 1 + 1, j, none⟩ = V.cell? ⟨b6 + 1 + 1, j, none⟩
 sz : w.heap.size + 1 < b6
section
variable {w : World} {A : Option Addr} {n c : Nat} {ws : List Int} {t s : Int}
theorem apportion_ok {m : Nat} (hn : n = m + 1) (hm : m < 19) (h : Iv w A n ws) (hw : ∀ j, 0 ≤ ws.getD j 0 ∧ ws.getD j 0 ≤ 999999999) (hcw : cw ws = (s, 0)) (hsum : App.sumTo (fun j => ws.getD j 0) n = s) (hs : 0 < s) (ht0 : 0 ≤ t) (ht1 : t ≤ 999999999) :
  Calls Tryz.prog 6 #[.int .i64 t, .slice A n c] w fun e w' => ∃ b, e = .returned (.tuple #[.slice (some ⟨b, 0, none⟩) n n, .int .i64 0]) ∧ Blk w' b 3 (irow ((List.range n).map (App.out t s (fun j => ws.getD j 0) (apL t s ws m) (App.left t s (fun j => ws.getD j 0) n).toNat))) ∧ w.heap.size ≤ b ∧ Below w.heap.size w w' := by
 have H := Lib.hid h
 have HW := Lib.hid hw
 have HCW := Lib.hid (fun W (hb : Below w.heap.size w W) => by
  have := checkWeights_num (c := c) (h.below hb) (show n ≤ 100000 by omega)
  rwa [hcw] at this)
 have HT := Lib.hid (And.intro ht0 ht1)
 have HS := Lib.hid hs
 have q1 : decide (t < 0) = false := by simp; omega
 have q2 : decide (999999999 < t) = false := by simp; omega
 have q3 : ((n : Int) == 0) = false := by rw [beq_eq_false_iff_ne]; omega
 have q4 : decide ((256 : Int) < (n : Int)) = false := by simp; omega
 have hmk := fun W => make_int n (by omega) W
 have HN := Lib.hid (And.intro hn hm)
 have hq0 : ∀ j, 0 ≤ App.quo t s (fun j => ws.getD j 0) j := fun j => Int.ediv_nonneg (Int.mul_nonneg ht0 (hw j).1) (by omega)
 have hleft := App.left_nonneg (t := t) hsum hs
 have hleft2 := App.left_lt (t := t) hsum hs
 unfold App.left at hleft hleft2
 have hpre : ∀ i, i ≤ n → 0 ≤ App.sumTo (App.quo t s (fun j => ws.getD j 0)) i ∧ App.sumTo (App.quo t s (fun j => ws.getD j 0)) i ≤ t := fun i hi => by
  have h1 := sumTo_mono (f := App.quo t s (fun j => ws.getD j 0)) (fun j => hq0 j) hi
  have h2 := App.sumTo_nonneg (f := App.quo t s (fun j => ws.getD j 0)) (n := i) (fun j _ => hq0 j)
  exact ⟨h2, by omega⟩
 have hstep : ∀ j, ∃ z, App.quo t s (fun j => ws.getD j 0) j = z := fun j => ⟨_, rfl⟩
 have hmul : ∀ j, 0 ≤ t * ws.getD j 0 ∧ t * ws.getD j 0 ≤ 999999998000000001 := fun j =>
  ⟨Int.mul_nonneg ht0 (hw j).1, by have := Int.mul_le_mul ht1 (hw j).2 (hw j).1 (show (0 : Int) ≤ 999999999 by omega); omega⟩
 obtain ⟨q, hq⟩ : ∃ q, App.quo t s (fun j => ws.getD j 0) = q := ⟨_, rfl⟩
 rw [hq] at hpre hq0
 have HPRE := Lib.hid hpre
 have HQ := Lib.hid hq
 have HQ0 := Lib.hid hq0
 have HMUL := Lib.hid hmul
 have HSUM := Lib.hid hsum
 clear h hw hcw hs ht0 ht1 hn hm hq hq0 hleft hleft2 hpre hstep hmul hsum
 obtain ⟨R, hR⟩ : ∃ R, (List.range n).map (App.out t s (fun j => ws.getD j 0) (apL t s ws m) (App.left t s (fun j => ws.getD j 0) n).toNat) = R := ⟨_, rfl⟩
 rw [hR]
 have HR := Lib.hid hR
 clear hR
 go_enter Tryz.func6, Tryz.ntmps6
 go_wp2_with (go_at_call 28; (with_reducible refine (HCW.out _ (by with_reducible repeat first | exact bR | assumption | apply bA | apply bD | apply bN | refine bC ?_ (by go_size) | refine bS ?_ ‹_›)).mono ?_); rintro e1 w1 ⟨rfl, hb1⟩; obtain ⟨hc1, hf1⟩ := bcell hb1; (try simp only [dw] at hc1 hf1); have hz1_0 : w.heap.size < w1.heap.size := (by have := hb1.size; (try simp at this); omega); have hz1_1 : w.heap.size + 1 < w1.heap.size := (by have := hb1.size; (try simp at this); omega); refine Hid.out ?_)
 have f0 : w1.cell? ⟨w.heap.size, 0, none⟩ = some (.int .i64 t) := by simp [go_sem, hc1]
 have f1 : w1.cell? ⟨w.heap.size + 1, 0, none⟩ = some (.slice A n c) := by simp [go_sem, hc1]
 have bW1 : Below w.heap.size w w1 := (by with_reducible repeat first | exact bR | assumption | apply bA | apply bD | apply bN | refine bC ?_ (by go_size) | refine bS ?_ ‹_›)
 have hn0 : w.heap.size ≠ w1.heap.size := Nat.ne_of_lt hz1_0
 have hn1 : w.heap.size + 1 ≠ w1.heap.size := Nat.ne_of_lt hz1_1
 have hn2 : w.heap.size ≠ w1.heap.size + 1 := by omega
 have hn3 : w.heap.size + 1 ≠ w1.heap.size + 1 := by omega
 have hn4 : w.heap.size ≠ w1.heap.size + 1 + 1 := by omega
 have hn5 : w.heap.size + 1 ≠ w1.heap.size + 1 + 1 := by omega
 have hl0 : w.heap.size < w1.heap.size + 1 := by omega
 have hl1 : w.heap.size + 1 < w1.heap.size + 1 := by omega
 have hl2 : w.heap.size < w1.heap.size + 1 + 1 := by omega
 have hl3 : w.heap.size + 1 < w1.heap.size + 1 + 1 := by omega
 clear hc1 hf1 hb1
 refine Lib.hid ?_
 go_wp2
 go_loopw [10, 47] (fun lf iv wr => ∃ i : Nat, i ≤ n ∧ lf = .int .i64 (t - App.sumTo q i) ∧ iv = .int .i64 (i : Int) ∧ A1 w wr w1.heap.size n c i A t s q) (fun _ iv _ => n - (intOf iv).toNat)
 case atStart =>
  refine ⟨0, by omega, by simp [App.sumTo], rfl, ?_⟩
  exact { bO := by
           rw [upto_zero]
           have := Blk.new (w1.alloc (.cells #[.int .i64 s] 3)) 3 (irow (List.replicate n 0))
           simp only [World.size_alloc] at this
           exact this.alloc _
          bP := by
           rw [upto_zero]
           have := Blk.new ((w1.alloc (.cells #[.int .i64 s] 3)).alloc (.cells (irow (List.replicate n 0)) 3)) 3 (irow (List.replicate n 0))
           simp only [World.size_alloc] at this
           exact this
          c2 := by simp [go_sem, f0, hn0, hn2, hn4, hl0, hl2, hz1_0]
          c3 := by simp [go_sem, f1, hn1, hn3, hn5, hl1, hl3, hz1_1]
          c4 := by simp [go_sem]
          bel := (by with_reducible repeat first | exact bR | assumption | apply bA | apply bD | apply bN | refine bC ?_ (by go_size) | refine bS ?_ ‹_›)
          sz := hz1_1 }
 case round =>
  clear f0 f1 hn0 hn1 hn2 hn3 hn4 hn5 hl0 hl1 hl2 hl3 bW1
  obtain ⟨b6, hb6⟩ : ∃ b, w1.heap.size = b := ⟨_, rfl⟩
  rw [hb6] at hrel hz1_0 hz1_1 ⊢
  clear hb6
  obtain ⟨i, hin, rfl, rfl, hI⟩ := hrel
  have f2 := hI.c2
  have f3 := hI.c3
  have f4 := hI.c4
  have bwr := hI.bel
  have HI := Lib.hid hI
  clear hI
  by_cases hi : i < n
  ·have q5 : decide ((i : Int) < (n : Int)) = true := by simp; exact hi
   obtain ⟨bw, ow, rfl, hbw, hcell⟩ := (H.out.below bwr).at_ (by omega)
   have hx := hcell i hi
   obtain ⟨x, hxx⟩ : ∃ x, ws.getD i 0 = x := ⟨_, rfl⟩
   have hm1 := HMUL.out i
   have hqi : q i = t * x / s := by rw [← HQ.out, ← hxx]; rfl
   have hpi := HPRE.out i hin
   have hpi1 := HPRE.out (i + 1) hi
   have hq0 := HQ0.out i
   have hsi : App.sumTo q (i + 1) = App.sumTo q i + q i := rfl
   rw [hxx] at hx hm1
   have m1 : wrap64 (t * x) = t * x := by unfold wrap64; omega
   have m2 : (t * x).tdiv s = q i := by rw [hqi]; exact Int.tdiv_eq_ediv_of_nonneg hm1.1
   have ht := HT.out
   obtain ⟨z, hz⟩ : ∃ z, q i = z := ⟨_, rfl⟩
   rw [hz] at m2 hq0 hsi
   have m3 : wrap64 z = z := by unfold wrap64; omega
   have m4 : wrap64 (t - App.sumTo q i - z) = t - App.sumTo q i - z := by unfold wrap64; omega
   have m5 : (s == 0) = false := by rw [beq_eq_false_iff_ne]; have := HS.out; omega
   have m6 : s ≠ 0 := by have := HS.out; omega
   have k0 := HI.out.bO.cell i
   rw [irow_at (by rw [upto_len]; exact hi), upto_at hi, if_neg (by omega)] at k0
   have k1 := HI.out.bP.cell i
   rw [irow_at (by rw [upto_len]; exact hi), upto_at hi, if_neg (by omega)] at k1
   have g0 := HI.out.bO.frozen i
   have g1 := HI.out.bP.frozen i
   have HM2 := Lib.hid m2
   have HZ := Lib.hid hz
   have HSI := Lib.hid hsi
   have HII := Lib.hid hi
   clear hm1 hqi hpi hpi1 hq0 hsi hcell hxx hz ht
   go_wp2
   have hz := HZ.out
   refine ⟨⟨i + 1, HII.out, by rw [m4, HSI.out, Int.sub_sub], by have := HN.out; have := HII.out; congr 1; unfold wrap64; omega, ?_⟩, by have := HN.out; have := HII.out; rw [show wrap64 ((i : Int) + 1) = ((i + 1 : Nat) : Int) by unfold wrap64; omega]; simp [intOf]; omega⟩
   exact { bO := by
            have := (HI.out.bO.set_ i (.int .i64 z)).far (p := ⟨b6 + 1 + 1, i, none⟩) (by simp) (.int .i64 (i : Int))
            rw [irow_put, ← hz, upto_set] at this
            rw [← hz]
            exact this
           bP := by
            have := (HI.out.bP.far (p := ⟨b6 + 1, i, none⟩) (by simp) (.int .i64 z)).set_ i (.int .i64 (i : Int))
            rw [irow_put, upto_set (fun j => (j : Int))] at this
            exact this
           c2 := by simp [go_sem, f2]
           c3 := by simp [go_sem, f3]
           c4 := by simp [go_sem, f4]
           bel := (HI.out.bel.setCell (p := ⟨b6 + 1, i, none⟩) (by have := HI.out.sz; simp; omega) _).setCell (p := ⟨b6 + 1 + 1, i, none⟩) (by have := HI.out.sz; simp; omega) _
           sz := HI.out.sz }
  ·have hin2 : n = i := by omega
   subst hin2
   have q5 : decide (n < n) = false := by simp
   have hL := App.left_nonneg (t := t) HSUM.out HS.out
   have hL2 := App.left_lt (t := t) HSUM.out HS.out
   obtain ⟨k, hk⟩ : ∃ k, (App.left t s (fun j => ws.getD j 0) n).toNat = k := ⟨_, rfl⟩
   have hki : t - App.sumTo q n = (k : Int) := by
    rw [← HQ.out]
    show App.left t s (fun j => ws.getD j 0) n = (k : Int)
    omega
   have hkn : k < n := by omega
   obtain ⟨L, hLL⟩ : ∃ L, apL t s ws m = L := ⟨_, rfl⟩
   have hR3 : R = outs t s (fun j => ws.getD j 0) L n k := by
    have hR2 := HR.out
    rw [hk, hLL] at hR2
    exact hR2.symm
   obtain ⟨bw, ow, rfl, hbw, hcell⟩ := (H.out.below bwr).at_ (by omega)
   obtain ⟨hn, hm⟩ := HN.out
   have hAW : AppW wr (b6 + 1 + 1) w.heap.size (w.heap.size + 1) b6 bw ow (m + 1) c ws t s :=
    { c2 := f2, c3 := by rw [← hn]; exact f3, c4 := f4, cw := by rw [← hn]; exact hcell, n2 := by have := HI.out.sz; omega, n3 := by have := HI.out.sz; omega, n4 := by omega,
      nw := by
       obtain ⟨b, o, e, h1, _⟩ := H.out.at_ (by omega)
       cases e
       have := HI.out.sz; omega
      s2 := by have := HI.out.bP.lt; have := HI.out.sz; omega, s3 := by have := HI.out.bP.lt; have := HI.out.sz; omega, s4 := by have := HI.out.bP.lt; omega, sw := hbw, t0 := HT.out.1, t1 := HT.out.2, ws0 := HW.out, s0 := HS.out }
   have hH : Sort.Holds encF wr (b6 + 1 + 1) 0 (ids m) := fun j hj => by
    rw [ids_size, ← hn] at hj
    have h1 := HI.out.bP.cell j
    rw [irow_at (by rw [upto_len]; exact hj), upto_at hj, if_pos hj] at h1
    rw [Nat.zero_add, h1]
    refine ⟨?_, HI.out.bP.frozen j⟩
    rw [ids_at (by omega)]
    rfl
   have hST := stable_num (cap := n) hn hAW (ids m) (ids_size m) hH hm
   have hD : Sort.Holds encF (Sort.putRow encF wr (b6 + 1 + 1) 0 (apD t s ws m)) (b6 + 1 + 1) 0 (apD t s ws m) := Sort.holds_putRow encF wr (b6 + 1 + 1) 0 (ids m) (apD t s ws m) hH (by rw [apD_size, ids_size])
   have hO := (HI.out.bO.putRow (enc := encF) (blk := b6 + 1 + 1) (off := 0) (d := apD t s ws m) (by omega))
   have hB := below_put (enc := encF) (blk := b6 + 1 + 1) (off := 0) (d := apD t s ws m) HI.out.bel (by have := HI.out.sz; omega)
   have hV : ∃ V, Sort.putRow encF wr (b6 + 1 + 1) 0 (apD t s ws m) = V := ⟨_, rfl⟩
   obtain ⟨V, hV⟩ := hV
   unfold StablePost at hST
   have hST' : Calls Tryz.prog 29 #[.slice (some ⟨b6 + 1 + 1, 0, none⟩) n n, .func (.func 30) #[] (cbA w.heap.size (w.heap.size + 1) b6)] wr fun e w' => e = .returned (.tuple #[]) ∧ ∃ n, w' = V.drewN n := by
    rw [← hV]; exact hST
   rw [hV] at hD hO hB
   have hLlen : L.length = n := by rw [← hLL, apL_len, ← hn]
   have hLnd : L.Nodup := by rw [← hLL]; exact (apL_order t s ws m).nodup
   have hLlt : ∀ j (h : j < L.length), L[j] < n := fun j h => by
    have h1 := ((apL_order t s ws m).mem L[j]).1 (by rw [hLL]; exact List.getElem_mem h)
    rw [← hn] at h1; exact h1
   have hP : ∀ j, j < n → V.cell? ⟨b6 + 1 + 1, j, none⟩ = some (.int .i64 ((L.getD j 0 : Nat) : Int)) := fun j hj => by
    have h1 := (hD j (by rw [apD_size, ← hn]; exact hj)).1
    rw [Nat.zero_add] at h1
    rw [h1]
    have h2 := apL_at (t := t) (s := s) (ws := ws) (m := m) (p := j) (by omega)
    have h3 : L.getD j 0 = (apL t s ws m)[j]'(by rw [apL_len, ← hn]; exact hj) := by
     rw [← hLL, List.getD_eq_getElem?_getD, List.getElem?_eq_getElem (by rw [apL_len, ← hn]; exact hj)]; rfl
    rw [h3, h2]; rfl
   have HST := Lib.hid hST'
   have HV := Lib.hid (And.intro hO hB)
   have HL := Lib.hid (And.intro hLlen (And.intro hLnd hLlt))
   have HP := Lib.hid hP
   have hqb : ∀ p, 0 ≤ q p ∧ q p ≤ 999999998000000001 := fun p => by
    have h1 := HMUL.out p
    rw [← HQ.out]
    exact ⟨Int.ediv_nonneg h1.1 (by have := HS.out; omega), Int.le_trans (Int.ediv_le_self _ h1.1) h1.2⟩
   have HQB := Lib.hid hqb
   have HR3 := Lib.hid hR3
   have HKN := Lib.hid hkn
   rw [hki]
   clear hqb hR3 hP hLlen hLnd hLlt hST hST' hO hB hD hV hH hAW hm hn hcell hLL hk hL hL2 HR HPRE HMUL HSUM hki hi hin
   go_wp2_with (go_at_call 29; (with_reducible refine HST.out.mono ?_); rintro e2 w2 ⟨rfl, kk, rfl⟩)
   go_loopw [78] (fun iv wr2 => ∃ j : Nat, j ≤ k ∧ iv = .int .i64 (j : Int) ∧ A2 w wr2 V b6 n (outs t s (fun j => ws.getD j 0) L n j)) (fun iv _ => k - (intOf iv).toNat)
   case atStart =>
    refine ⟨0, by omega, rfl, ?_⟩
    exact { bO := by rw [outs_zero, HQ.out]; exact HV.out.1.drewN kk, bel := below_drewN HV.out.2 kk, pl := fun j => by simp, sz := HI.out.sz }
   case round =>
    obtain ⟨j, hjk, rfl, hJ⟩ := hrel
    have HJ := Lib.hid hJ
    have bJ := hJ.bel
    clear hJ
    by_cases hj : j < k
    ·have q6 : decide ((j : Int) < (k : Int)) = true := by simp; exact hj
     have hjL : j < L.length := by rw [HL.out.1]; omega
     have hp := HL.out.2.2 j hjL
     have k0 := HJ.out.pl j
     rw [HP.out j (by omega), List.getD_eq_getElem?_getD, List.getElem?_eq_getElem hjL, Option.getD_some] at k0
     have HST := outs_step (t := t) (s := s) (f := fun j => ws.getD j 0) (n := n) HL.out.2.1 hjL
     obtain ⟨p, hpp⟩ : ∃ p, L[j] = p := ⟨_, rfl⟩
     rw [hpp] at hp k0 HST
     have k1 := HJ.out.bO.cell p
     rw [irow_at (by rw [outs_len]; exact hp), outs_at hp] at k1
     have g1 := HJ.out.bO.frozen p
     obtain ⟨z, hz⟩ : ∃ z, App.out t s (fun j => ws.getD j 0) L j p = z := ⟨_, rfl⟩
     rw [hz] at k1 HST
     have hzb : 0 ≤ z ∧ z ≤ 999999998000000002 := by
      rw [← hz]; unfold App.out; rw [HQ.out]; have := HQB.out p; split <;> omega
     have m1 : wrap64 (z + 1) = z + 1 := by unfold wrap64; omega
     have HSTP := Lib.hid HST
     have HJK := Lib.hid hj
     have hkn2 := HKN.out
     clear HST hzb hz hpp hjL
     go_wp2
     refine ⟨⟨j + 1, HJK.out, by have := HJK.out; have := HKN.out; have := HN.out; congr 1; unfold wrap64; omega, ?_⟩, by have := HJK.out; have := HKN.out; have := HN.out; rw [show wrap64 ((j : Int) + 1) = ((j + 1 : Nat) : Int) by unfold wrap64; omega]; simp [intOf]; omega⟩
     exact { bO := by
              have := HJ.out.bO.set_ p (.int .i64 (wrap64 (z + 1)))
              rw [m1, irow_put, HSTP.out] at this
              exact this
             bel := bJ.setCell (p := ⟨b6 + 1, p, none⟩) (by have := HI.out.sz; simp; omega) _
             pl := fun i => by rw [World.cell?_setCell_far _ _ _ _ (by simp)]; exact HJ.out.pl i
             sz := HI.out.sz }
    ·have hjk2 : k = j := by omega
     subst hjk2
     have q6 : decide (k < k) = false := by simp
     go_wp2
     go_ret2
     exact ⟨b6 + 1, rfl, by rw [HR3.out]; exact HJ.out.bO, by have := HI.out.sz; omega, bJ⟩
end

section
variable {w : World} {A : Option Addr} {n c : Nat} {ws : List Int} {t : Int}
theorem apportion_err {k : Int} (h : Iv w A n ws) (h0 : 0 < n) (hn : n ≤ 256) (ht0 : 0 ≤ t) (ht1 : t ≤ 999999999) (hcw : cw ws = (0, k)) (hk : k ≠ 0) :
  Calls Tryz.prog 6 #[.int .i64 t, .slice A n c] w fun e w' => e = .returned (.tuple #[.slice none 0 0, .int .i64 k]) ∧ Below w.heap.size w w' := by
 have HCW := Lib.hid (fun W (hb : Below w.heap.size w W) => by
  have := checkWeights_num (c := c) (h.below hb) (show n ≤ 100000 by omega)
  rwa [hcw] at this)
 have q0 : ((n : Int) == 0) = false := by rw [beq_eq_false_iff_ne]; omega
 have q1 : decide ((256 : Int) < (n : Int)) = false := by rw [decide_eq_false_iff_not]; omega
 have q2 : decide (t < 0) = false := by rw [decide_eq_false_iff_not]; omega
 have q3 : decide (999999999 < t) = false := by rw [decide_eq_false_iff_not]; omega
 have q4 : (k != 0) = true := by rw [bne_iff_ne]; exact hk
 clear h h0 hn ht0 ht1 hcw hk
 go_enter Tryz.func6, Tryz.ntmps6
 go_wp2_with (go_at_call 28; ((with_reducible refine (HCW.out _ (by with_reducible repeat first | exact bR | assumption | apply bA | apply bD | apply bN | refine bC ?_ (by go_size) | refine bS ?_ ‹_›)).mono ?_); rintro e1 w1 ⟨rfl, hb1⟩); obtain ⟨hc1, hf1⟩ := bcell hb1; (try simp only [dw] at hc1 hf1))
 go_ret2
 exact ⟨rfl, (by with_reducible repeat first | exact bR | assumption | apply bA | apply bD | apply bN | refine bC ?_ (by go_size) | refine bS ?_ ‹_›)⟩
theorem apportion_low (ht : t < 0) : Calls Tryz.prog 6 #[.int .i64 t, .slice A n c] w fun e w' => e = .returned (.tuple #[.slice none 0 0, .int .i64 3]) ∧ Below w.heap.size w w' := by
 have q2 : decide (t < 0) = true := by rw [decide_eq_true_iff]; exact ht
 clear ht
 go_enter Tryz.func6, Tryz.ntmps6
 go_wp2
 go_ret2
 exact ⟨rfl, (by with_reducible repeat first | exact bR | assumption | apply bA | apply bD | apply bN | refine bC ?_ (by go_size) | refine bS ?_ ‹_›)⟩
theorem apportion_high (ht0 : 0 ≤ t) (ht : 999999999 < t) : Calls Tryz.prog 6 #[.int .i64 t, .slice A n c] w fun e w' => e = .returned (.tuple #[.slice none 0 0, .int .i64 3]) ∧ Below w.heap.size w w' := by
 have q2 : decide (t < 0) = false := by rw [decide_eq_false_iff_not]; omega
 have q3 : decide (999999999 < t) = true := by rw [decide_eq_true_iff]; exact ht
 clear ht0 ht
 go_enter Tryz.func6, Tryz.ntmps6
 go_wp2
 go_ret2
 exact ⟨rfl, (by with_reducible repeat first | exact bR | assumption | apply bA | apply bD | apply bN | refine bC ?_ (by go_size) | refine bS ?_ ‹_›)⟩
theorem apportion_none (ht0 : 0 ≤ t) (ht1 : t ≤ 999999999) : Calls Tryz.prog 6 #[.int .i64 t, .slice A 0 c] w fun e w' => e = .returned (.tuple #[.slice none 0 0, .int .i64 2]) ∧ Below w.heap.size w w' := by
 have q2 : decide (t < 0) = false := by rw [decide_eq_false_iff_not]; omega
 have q3 : decide (999999999 < t) = false := by rw [decide_eq_false_iff_not]; omega
 clear ht0 ht1
 go_enter Tryz.func6, Tryz.ntmps6
 go_wp2
 go_ret2
 exact ⟨rfl, (by with_reducible repeat first | exact bR | assumption | apply bA | apply bD | apply bN | refine bC ?_ (by go_size) | refine bS ?_ ‹_›)⟩
theorem apportion_many (ht0 : 0 ≤ t) (ht1 : t ≤ 999999999) (hn : 256 < n) : Calls Tryz.prog 6 #[.int .i64 t, .slice A n c] w fun e w' => e = .returned (.tuple #[.slice none 0 0, .int .i64 5]) ∧ Below w.heap.size w w' := by
 have q0 : ((n : Int) == 0) = false := by rw [beq_eq_false_iff_ne]; omega
 have q1 : decide ((256 : Int) < (n : Int)) = true := by rw [decide_eq_true_iff]; omega
 have q2 : decide (t < 0) = false := by rw [decide_eq_false_iff_not]; omega
 have q3 : decide (999999999 < t) = false := by rw [decide_eq_false_iff_not]; omega
 clear hn ht0 ht1
 go_enter Tryz.func6, Tryz.ntmps6
 go_wp2
 go_ret2
 exact ⟨rfl, (by with_reducible repeat first | exact bR | assumption | apply bA | apply bD | apply bN | refine bC ?_ (by go_size) | refine bS ?_ ‹_›)⟩
end
end Go.Proofs.YtoccfcpggomlaaaGreatDoor
