/- The law DryWatches: the walk. -/
import Derived.Test.YtnbnoacadhoimaaGreatDoorCrG
import Derived.Test.YtnbnoacadhoimaaGreatDoorCpG
set_option linter.unusedSimpArgs false
set_option linter.unusedVariables false
set_option maxRecDepth 100000
set_option maxHeartbeats 8000000
namespace Go.Proofs.YtnbnoacadhoimaaGreatDoor
open Go Go.RowKit Go.Sort

section
variable {w : World} {A : Option Addr} {n c : Nat} {rs : List (List Int)} {x : Wt} {d N2 : Nat}
theorem watches_out (hE : Env6 w) (h : Rv w A n rs) (hg : rowsG rs = false) :
    Calls Tryz.prog 4 #[.slice A n c, wtv x, .agg #[.int .u8 (d : Int), .int .u8 (N2 : Int)]] w fun e w' => e = .returned (.bool true) ∧ Below w.heap.size w w' := by
  obtain ⟨xa, xr, xi, xo⟩ := x
  have HA := qh (fun W (hb : Below w.heap.size w W) => hE.awake hb)
  have HG := qh (fun W (hb : Below w.heap.size w W) => rows_ok (c := c) (h.below hb) hg)
  clear hE h hg
  go_enter Tryz.func4, Tryz.ntmps4
  go_upto_region 1 with (fail)
  have BX := (Blk.new w 24 #[.int .i64 xa, .int .i64 xr, .int .i64 xi, .int .i64 xo]).alloc (.cells #[.int .u8 (d : Int), .int .u8 (N2 : Int)] 44)
  have BY := Blk.new (w.alloc (.cells #[.int .i64 xa, .int .i64 xr, .int .i64 xi, .int .i64 xo] 24)) 44 #[.int .u8 (d : Int), .int .u8 (N2 : Int)]
  rw [World.size_alloc] at BY
  have d0 := BX.cell 0
  have d1 := BX.cell 1
  have d2 := BX.cell 2
  have d3 := BX.cell 3
  have e0 := BY.cell 0
  have e1 := BY.cell 1
  have zX := BY.lt
  have zX0 := BX.lt
  simp only [List.getElem?_toArray, List.getElem?_cons_zero, List.getElem?_cons_succ] at d0 d1 d2 d3 e0 e1
  have bV : Below w.heap.size w ((w.alloc (.cells #[.int .i64 xa, .int .i64 xr, .int .i64 xi, .int .i64 xo] 24)).alloc (.cells #[.int .u8 (d : Int), .int .u8 (N2 : Int)] 44)) := bi
  obtain ⟨V, hV⟩ : ∃ V, (w.alloc (.cells #[.int .i64 xa, .int .i64 xr, .int .i64 xi, .int .i64 xo] 24)).alloc (.cells #[.int .u8 (d : Int), .int .u8 (N2 : Int)] 44) = V := ⟨_, rfl⟩
  rw [hV] at d0 d1 d2 d3 e0 e1 zX zX0 bV ⊢
  clear hV BX BY
  go_wp2_with (first | (go_at_call 7; (with_reducible refine mo1 w (HG.out _ (below_step bV bi)) (by go_size) fun w1 hb1 hc1 hf1 hz1_0 _ => ?_)) | (go_at_call 8; (with_reducible refine mo1 w (HA.out _ (below_step bV bi)) (by go_size) fun w4 hb4 hc4 hf4 hz4_0 _ => ?_)))
  go_ret
  exact ⟨rfl, below_step bV bi⟩
theorem watches_long (hE : Env6 w) (h : Rv w A n rs) (hg : rowsG rs = true) (hn : 10 < n) :
    Calls Tryz.prog 4 #[.slice A n c, wtv x, .agg #[.int .u8 (d : Int), .int .u8 (N2 : Int)]] w fun e w' => e = .returned (.bool true) ∧ Below w.heap.size w w' := by
  obtain ⟨xa, xr, xi, xo⟩ := x
  have HA := qh (fun W (hb : Below w.heap.size w W) => hE.awake hb)
  have HG := qh (fun W (hb : Below w.heap.size w W) => rows_ok (c := c) (h.below hb) hg)
  have p1 : decide ((10 : Int) < (n : Int)) = true := by rw [decide_eq_true_iff]; omega
  clear hE h hg hn
  go_enter Tryz.func4, Tryz.ntmps4
  go_upto_region 1 with (fail)
  have BX := (Blk.new w 24 #[.int .i64 xa, .int .i64 xr, .int .i64 xi, .int .i64 xo]).alloc (.cells #[.int .u8 (d : Int), .int .u8 (N2 : Int)] 44)
  have BY := Blk.new (w.alloc (.cells #[.int .i64 xa, .int .i64 xr, .int .i64 xi, .int .i64 xo] 24)) 44 #[.int .u8 (d : Int), .int .u8 (N2 : Int)]
  rw [World.size_alloc] at BY
  have d0 := BX.cell 0
  have d1 := BX.cell 1
  have d2 := BX.cell 2
  have d3 := BX.cell 3
  have e0 := BY.cell 0
  have e1 := BY.cell 1
  have zX := BY.lt
  have zX0 := BX.lt
  simp only [List.getElem?_toArray, List.getElem?_cons_zero, List.getElem?_cons_succ] at d0 d1 d2 d3 e0 e1
  have bV : Below w.heap.size w ((w.alloc (.cells #[.int .i64 xa, .int .i64 xr, .int .i64 xi, .int .i64 xo] 24)).alloc (.cells #[.int .u8 (d : Int), .int .u8 (N2 : Int)] 44)) := bi
  obtain ⟨V, hV⟩ : ∃ V, (w.alloc (.cells #[.int .i64 xa, .int .i64 xr, .int .i64 xi, .int .i64 xo] 24)).alloc (.cells #[.int .u8 (d : Int), .int .u8 (N2 : Int)] 44) = V := ⟨_, rfl⟩
  rw [hV] at d0 d1 d2 d3 e0 e1 zX zX0 bV ⊢
  clear hV BX BY
  go_wp2_with (first | (go_at_call 7; (with_reducible refine mo1 w (HG.out _ (below_step bV bi)) (by go_size) fun w1 hb1 hc1 hf1 hz1_0 _ => ?_)) | (go_at_call 8; (with_reducible refine mo1 w (HA.out _ (below_step bV bi)) (by go_size) fun w4 hb4 hc4 hf4 hz4_0 _ => ?_)))
  go_ret
  exact ⟨rfl, below_step bV bi⟩
theorem watches_bad {k : Int} (hE : Env6 w) (h : Rv w A n rs) (hg : rowsG rs = true) (hn : n ≤ 10) (hk : readE rs = k) (h0 : k ≠ 0) :
    Calls Tryz.prog 4 #[.slice A n c, wtv x, .agg #[.int .u8 (d : Int), .int .u8 (N2 : Int)]] w fun e w' => e = .returned (.bool true) ∧ Below w.heap.size w w' := by
  obtain ⟨xa, xr, xi, xo⟩ := x
  have hl : ∀ z ∈ rs, z.length ≤ 100000 := fun z hz => by have := (rowsG_true hg).2.1 z hz; omega
  have HA := qh (fun W (hb : Below w.heap.size w W) => hE.awake hb)
  have HG := qh (fun W (hb : Below w.heap.size w W) => rows_ok (c := c) (h.below hb) hg)
  have HR := qh (fun W (hb : Below w.heap.size w W) => rread_ok (c := c) (h.below hb) hl hk)
  have p1 : decide ((10 : Int) < (n : Int)) = false := by rw [decide_eq_false_iff_not]; omega
  have p2 : (k != 0) = true := by rw [bne_iff_ne]; exact h0
  clear hE h hg hn hl hk h0
  go_enter Tryz.func4, Tryz.ntmps4
  go_upto_region 1 with (fail)
  have BX := (Blk.new w 24 #[.int .i64 xa, .int .i64 xr, .int .i64 xi, .int .i64 xo]).alloc (.cells #[.int .u8 (d : Int), .int .u8 (N2 : Int)] 44)
  have BY := Blk.new (w.alloc (.cells #[.int .i64 xa, .int .i64 xr, .int .i64 xi, .int .i64 xo] 24)) 44 #[.int .u8 (d : Int), .int .u8 (N2 : Int)]
  rw [World.size_alloc] at BY
  have d0 := BX.cell 0
  have d1 := BX.cell 1
  have d2 := BX.cell 2
  have d3 := BX.cell 3
  have e0 := BY.cell 0
  have e1 := BY.cell 1
  have zX := BY.lt
  have zX0 := BX.lt
  simp only [List.getElem?_toArray, List.getElem?_cons_zero, List.getElem?_cons_succ] at d0 d1 d2 d3 e0 e1
  have bV : Below w.heap.size w ((w.alloc (.cells #[.int .i64 xa, .int .i64 xr, .int .i64 xi, .int .i64 xo] 24)).alloc (.cells #[.int .u8 (d : Int), .int .u8 (N2 : Int)] 44)) := bi
  obtain ⟨V, hV⟩ : ∃ V, (w.alloc (.cells #[.int .i64 xa, .int .i64 xr, .int .i64 xi, .int .i64 xo] 24)).alloc (.cells #[.int .u8 (d : Int), .int .u8 (N2 : Int)] 44) = V := ⟨_, rfl⟩
  rw [hV] at d0 d1 d2 d3 e0 e1 zX zX0 bV ⊢
  clear hV BX BY
  go_wp2_with (first | (go_at_call 7; (with_reducible refine mo1 w (HG.out _ (below_step bV bi)) (by go_size) fun w1 hb1 hc1 hf1 hz1_0 _ => ?_)) | (go_at_call 11; (with_reducible refine mo1 w (HR.out _ (below_step bV bi)) (by go_size) fun w2 hb2 hc2 hf2 hz2_0 _ => ?_)) | (go_at_call 8; (with_reducible refine mo1 w (HA.out _ (below_step bV bi)) (by go_size) fun w4 hb4 hc4 hf4 hz4_0 _ => ?_)))
  go_ret
  exact ⟨rfl, below_step bV bi⟩
theorem watches_odd (hE : Env6 w) (h : Rv w A n rs) (hg : rowsG rs = true) (hn : n ≤ 10) (hk : readE rs = 0) (hx : watchB x = false ∨ watchB x = true ∧ 700 < x.a) :
    Calls Tryz.prog 4 #[.slice A n c, wtv x, .agg #[.int .u8 (d : Int), .int .u8 (N2 : Int)]] w fun e w' => e = .returned (.bool true) ∧ Below w.heap.size w w' := by
  obtain ⟨xa, xr, xi, xo⟩ := x
  have hl : ∀ z ∈ rs, z.length ≤ 100000 := fun z hz => by have := (rowsG_true hg).2.1 z hz; omega
  have HA := qh (fun W (hb : Below w.heap.size w W) => hE.awake hb)
  have HG := qh (fun W (hb : Below w.heap.size w W) => rows_ok (c := c) (h.below hb) hg)
  have HR := qh (fun W (hb : Below w.heap.size w W) => rread_ok (c := c) (h.below hb) hl hk)
  have p1 : decide ((10 : Int) < (n : Int)) = false := by rw [decide_eq_false_iff_not]; omega
  clear hE h hg hn hl hk
  rcases hx with hx | ⟨hx, ha⟩
  · have HWE : Hid (watchE ⟨xa, xr, xi, xo⟩ = 3) := qh (by unfold watchE; rw [hx]; rfl)
    clear hx
    go_enter Tryz.func4, Tryz.ntmps4
    go_upto_region 1 with (fail)
    have BX := (Blk.new w 24 #[.int .i64 xa, .int .i64 xr, .int .i64 xi, .int .i64 xo]).alloc (.cells #[.int .u8 (d : Int), .int .u8 (N2 : Int)] 44)
    have BY := Blk.new (w.alloc (.cells #[.int .i64 xa, .int .i64 xr, .int .i64 xi, .int .i64 xo] 24)) 44 #[.int .u8 (d : Int), .int .u8 (N2 : Int)]
    rw [World.size_alloc] at BY
    have d0 := BX.cell 0
    have d1 := BX.cell 1
    have d2 := BX.cell 2
    have d3 := BX.cell 3
    have e0 := BY.cell 0
    have e1 := BY.cell 1
    have zX := BY.lt
    have zX0 := BX.lt
    simp only [List.getElem?_toArray, List.getElem?_cons_zero, List.getElem?_cons_succ] at d0 d1 d2 d3 e0 e1
    have bV : Below w.heap.size w ((w.alloc (.cells #[.int .i64 xa, .int .i64 xr, .int .i64 xi, .int .i64 xo] 24)).alloc (.cells #[.int .u8 (d : Int), .int .u8 (N2 : Int)] 44)) := bi
    obtain ⟨V, hV⟩ : ∃ V, (w.alloc (.cells #[.int .i64 xa, .int .i64 xr, .int .i64 xi, .int .i64 xo] 24)).alloc (.cells #[.int .u8 (d : Int), .int .u8 (N2 : Int)] 44) = V := ⟨_, rfl⟩
    rw [hV] at d0 d1 d2 d3 e0 e1 zX zX0 bV ⊢
    clear hV BX BY
    go_wp2_with (first | (go_at_call 7; (with_reducible refine mo1 w (HG.out _ (below_step bV bi)) (by go_size) fun w1 hb1 hc1 hf1 hz1_0 _ => ?_)) | (go_at_call 11; (with_reducible refine mo1 w (HR.out _ (below_step bV bi)) (by go_size) fun w2 hb2 hc2 hf2 hz2_0 _ => ?_)) | (go_at_call 14; (with_reducible refine mo1 w (rwatch_fact HWE.out) (by go_size) fun w3 hb3 hc3 hf3 hz3_0 _ => ?_)) | (go_at_call 8; (with_reducible refine mo1 w (HA.out _ (below_step bV bi)) (by go_size) fun w4 hb4 hc4 hf4 hz4_0 _ => ?_)))
    go_ret
    exact ⟨rfl, below_step bV bi⟩
  · have HWE : Hid (watchE ⟨xa, xr, xi, xo⟩ = 0) := qh (by unfold watchE; rw [hx]; rfl)
    have p2 : decide ((700 : Int) < xa) = true := by rw [decide_eq_true_iff]; exact ha
    clear hx ha
    go_enter Tryz.func4, Tryz.ntmps4
    go_upto_region 1 with (fail)
    have BX := (Blk.new w 24 #[.int .i64 xa, .int .i64 xr, .int .i64 xi, .int .i64 xo]).alloc (.cells #[.int .u8 (d : Int), .int .u8 (N2 : Int)] 44)
    have BY := Blk.new (w.alloc (.cells #[.int .i64 xa, .int .i64 xr, .int .i64 xi, .int .i64 xo] 24)) 44 #[.int .u8 (d : Int), .int .u8 (N2 : Int)]
    rw [World.size_alloc] at BY
    have d0 := BX.cell 0
    have d1 := BX.cell 1
    have d2 := BX.cell 2
    have d3 := BX.cell 3
    have e0 := BY.cell 0
    have e1 := BY.cell 1
    have zX := BY.lt
    have zX0 := BX.lt
    simp only [List.getElem?_toArray, List.getElem?_cons_zero, List.getElem?_cons_succ] at d0 d1 d2 d3 e0 e1
    have bV : Below w.heap.size w ((w.alloc (.cells #[.int .i64 xa, .int .i64 xr, .int .i64 xi, .int .i64 xo] 24)).alloc (.cells #[.int .u8 (d : Int), .int .u8 (N2 : Int)] 44)) := bi
    obtain ⟨V, hV⟩ : ∃ V, (w.alloc (.cells #[.int .i64 xa, .int .i64 xr, .int .i64 xi, .int .i64 xo] 24)).alloc (.cells #[.int .u8 (d : Int), .int .u8 (N2 : Int)] 44) = V := ⟨_, rfl⟩
    rw [hV] at d0 d1 d2 d3 e0 e1 zX zX0 bV ⊢
    clear hV BX BY
    go_wp2_with (first | (go_at_call 7; (with_reducible refine mo1 w (HG.out _ (below_step bV bi)) (by go_size) fun w1 hb1 hc1 hf1 hz1_0 _ => ?_)) | (go_at_call 11; (with_reducible refine mo1 w (HR.out _ (below_step bV bi)) (by go_size) fun w2 hb2 hc2 hf2 hz2_0 _ => ?_)) | (go_at_call 14; (with_reducible refine mo1 w (rwatch_fact HWE.out) (by go_size) fun w3 hb3 hc3 hf3 hz3_0 _ => ?_)) | (go_at_call 8; (with_reducible refine mo1 w (HA.out _ (below_step bV bi)) (by go_size) fun w4 hb4 hc4 hf4 hz4_0 _ => ?_)))
    go_ret
    exact ⟨rfl, below_step bV bi⟩
theorem palarms_more {m : Nat} (h : Rv w A n rs) (hnc : n ≤ c) (hg : Good m rs) (hx : watchB x = true) (hl : ∀ z ∈ rs, z.length ≤ 100000) (hk : readE rs = 0) (hs : 3 * m * n ≤ 256) (hn : n ≤ 1000) :
    Calls Tryz.prog 9 #[.slice A n c, wtv x] w fun e w' => ∃ A' n' c', e = .returned (.tuple #[.slice A' n' c', .int .i64 0]) ∧ (Lv w' A' n' (alT x m rs n) ∧ n' ≤ c' ∧ (A' = none ∧ c' = 0 ∨ ∃ g, A' = some ⟨g, 0, none⟩)) ∧ Below w.heap.size w w' := by
  refine (palarms_ok (c := c) h hnc hg hx hl hk hs hn).mono ?_
  rintro e w' ⟨A', n', c', rfl, ho, hb⟩
  refine ⟨A', n', c', rfl, ⟨OwnA.lv ho ho.n, ?_⟩, hb⟩
  rcases ho.2 with ⟨e, e0⟩ | ⟨g, cap, cur, e, _, _, h1, _⟩
  · cases e; exact ⟨by omega, .inl ⟨rfl, rfl⟩⟩
  · cases e; exact ⟨h1, .inr ⟨g, rfl⟩⟩
/-- A row's length is at most its capacity. -/
def RowCap (w : World) (A : Option Addr) (n : Nat) : Prop := ∀ b o, A = some ⟨b, o, none⟩ → ∀ j, j < n → ∀ A' m' c', w.cell? ⟨b, o + j, none⟩ = some (.slice A' m' c') → m' ≤ c'
set_option maxHeartbeats 16000000 in
theorem watches_main (hE : Env6 w) (h : Rv w A n rs) (hnc : n ≤ c) (hcp : RowCap w A n) (hg : rowsG rs = true) (hn : n ≤ 10) (hk : readE rs = 0) (hx : watchB x = true) (ha : x.a ≤ 700) (hd : d < 256) (hN : N2 < 256) :
    Calls Tryz.prog 4 #[.slice A n c, wtv x, .agg #[.int .u8 (d : Int), .int .u8 (N2 : Int)]] w fun e w' => e = .returned (.bool true) ∧ Below w.heap.size w w' := by
  obtain ⟨xa, xr, xi, xo⟩ := x
  have hl : ∀ z ∈ rs, z.length ≤ 100000 := fun z hz => by have := (rowsG_true hg).2.1 z hz; omega
  obtain ⟨h0, hG⟩ := good_of hk
  have hm8 := ((rowsG_true hg).2.2 hk).2 _ (getD_in (d := ([] : List Int)) h0)
  obtain ⟨m, hm⟩ : ∃ m, (rs.getD 0 []).length = m := ⟨_, rfl⟩
  rw [hm] at hG hm8
  rw [h.len] at h0
  have HA := qh (fun W (hb : Below w.heap.size w W) => hE.awake hb)
  have HG := qh (fun W (hb : Below w.heap.size w W) => rows_ok (c := c) (h.below hb) hg)
  have HR := qh (fun W (hb : Below w.heap.size w W) => rread_ok (c := c) (h.below hb) hl hk)
  have HWE : Hid (watchE ⟨xa, xr, xi, xo⟩ = 0) := qh (by unfold watchE; rw [hx]; rfl)
  have p1 : decide ((10 : Int) < (n : Int)) = false := by rw [decide_eq_false_iff_not]; omega
  have p2 : decide ((700 : Int) < xa) = false := by rw [decide_eq_false_iff_not]; dsimp only at ha; omega
  have HH := qh h
  have HGO := qh hG
  have HX := qh (And.intro hx ha)
  have HC := qh (And.intro hnc (And.intro hcp hk))
  have hm0 := hG.m0
  obtain ⟨k, hkm⟩ : ∃ k, N2 % m = k := ⟨_, rfl⟩
  have hkl : k < m := by rw [← hkm]; exact Nat.mod_lt _ hm0
  have mk : (N2 : Int).tmod (m : Int) = (k : Int) := by rw [← hkm]; rfl
  clear hE h hg hl hk hx ha hnc hcp hG hm hkm
  go_enter Tryz.func4, Tryz.ntmps4
  go_upto_region 1 with (fail)
  have BX := (Blk.new w 24 #[.int .i64 xa, .int .i64 xr, .int .i64 xi, .int .i64 xo]).alloc (.cells #[.int .u8 (d : Int), .int .u8 (N2 : Int)] 44)
  have BY := Blk.new (w.alloc (.cells #[.int .i64 xa, .int .i64 xr, .int .i64 xi, .int .i64 xo] 24)) 44 #[.int .u8 (d : Int), .int .u8 (N2 : Int)]
  rw [World.size_alloc] at BY
  have d0 := BX.cell 0
  have d1 := BX.cell 1
  have d2 := BX.cell 2
  have d3 := BX.cell 3
  have e0 := BY.cell 0
  have e1 := BY.cell 1
  have zX := BY.lt
  have zX0 := BX.lt
  simp only [List.getElem?_toArray, List.getElem?_cons_zero, List.getElem?_cons_succ] at d0 d1 d2 d3 e0 e1
  have bV : Below w.heap.size w ((w.alloc (.cells #[.int .i64 xa, .int .i64 xr, .int .i64 xi, .int .i64 xo] 24)).alloc (.cells #[.int .u8 (d : Int), .int .u8 (N2 : Int)] 44)) := bi
  obtain ⟨V, hV⟩ : ∃ V, (w.alloc (.cells #[.int .i64 xa, .int .i64 xr, .int .i64 xi, .int .i64 xo] 24)).alloc (.cells #[.int .u8 (d : Int), .int .u8 (N2 : Int)] 44) = V := ⟨_, rfl⟩
  rw [hV] at d0 d1 d2 d3 e0 e1 zX zX0 bV ⊢
  clear hV BX BY
  go_upto_region 4 with (first | (go_at_call 7; (with_reducible refine mo2 w (HG.out _ (below_step bV bi)) (by go_size) fun w1 hb1 hc1 hf1 hz1_0 hz1_1 _ => ?_)) | (go_at_call 11; (with_reducible refine mo2 w (HR.out _ (below_step bV bi)) (by go_size) fun w2 hb2 hc2 hf2 hz2_0 hz2_1 _ => ?_)) | (go_at_call 14; (with_reducible refine mo2 w (rwatch_fact HWE.out) (by go_size) fun w3 hb3 hc3 hf3 hz3_0 hz3_1 _ => ?_)))
  have b3 : Below V.heap.size V w3 := bi
  obtain ⟨U, hU⟩ : ∃ U, w3 = U := ⟨_, rfl⟩
  rw [hU] at b3 ⊢
  have bU := below_step bV b3
  replace d0 := cell_on b3 d0
  replace d1 := cell_on b3 d1
  replace d2 := cell_on b3 d2
  replace d3 := cell_on b3 d3
  replace e0 := cell_on b3 e0
  replace e1 := cell_on b3 e1
  have zU := Nat.lt_of_lt_of_le zX b3.size
  clear hU hc1 hc2 hc3 hf1 hf2 hf3 hb1 hb2 hb3 b3 zX zX0 bV
  obtain ⟨b, o, rfl, hbl, hat⟩ := HH.out.at_ h0
  obtain ⟨B0, l0, c0, k0, kv0⟩ := hat 0 h0
  have hl0 : l0 = m := by rw [← HGO.out.len _ (getD_in (d := ([] : List Int)) (show 0 < rs.length by rw [HH.out.len]; exact h0))]; exact kv0.len.symm
  subst hl0
  rw [Nat.add_zero] at k0
  replace k0 := cell_on bU k0
  have zb := Nat.lt_of_lt_of_le hbl bU.size
  have HAT := qh hat
  clear kv0 hat hbl
  go_quiet (fail)
  go_wp2
  have bq1 : RowKit.Below U.heap.size U (U.drewN nq) := bN bR
  obtain ⟨V, hV⟩ : ∃ V, U.drewN nq = V := ⟨_, rfl⟩
  rw [hV] at bq1 ⊢
  have bV := below_step bU bq1
  have HD := qh (And.intro (cell_on bq1 d0) (And.intro (cell_on bq1 d1) (And.intro (cell_on bq1 d2) (And.intro (cell_on bq1 d3) (cell_on bq1 e0)))))
  have HE1 := qh (cell_on bq1 e1)
  replace zU := Nat.lt_of_lt_of_le zU bq1.size
  replace zb := Nat.lt_of_lt_of_le zb bq1.size
  clear d0 d1 d2 d3 e0 e1 k0 hV bq1 bU mk
  have HKL := qh hkl
  go_loopw [7, 8, 67] (fun v7 v8 u wr => ∃ (i cw ca : Nat) (Aw Aa : Option Addr), u = .int .i64 (i : Int) ∧ v7 = .slice Aw i cw ∧ v8 = .slice Aa i ca ∧ i ≤ n ∧ RowKit.Below V.heap.size V wr ∧ Pair V wr l0 rs d k i Aw cw Aa ca ∧ ∀ z ∈ rs.take i, ∀ v ∈ z, -300 ≤ v ∧ v ≤ 700) (fun _ _ u _ => n - (intOf u).toNat)
  case atStart => exact ⟨0, 0, 0, none, none, rfl, rfl, rfl, Nat.zero_le _, bi, Pair.nil, fun z hz => by simp at hz⟩
  case round =>
    obtain ⟨i, cw, ca, Aw, Aa, rfl, rfl, rfl, hin, hb, hP, hT⟩ := hrel
    have _ := bm hb
    rename World => wo
    have HP := qh (And.intro hP hT)
    clear hP hT
    by_cases hi : i < n
    · have p0 : decide (i < n) = true := by simpa using hi
      have HI := qh hi
      obtain ⟨B, l, e, k1, kv⟩ := HAT.out i hi
      have hle : l ≤ e := HC.out.2.1 b o rfl i hi _ _ _ k1
      have hll : l = l0 := by rw [← HGO.out.len _ (getD_in (d := ([] : List Int)) (show i < rs.length by rw [HH.out.len]; exact hi))]; exact kv.len.symm
      subst hll
      obtain ⟨b', o', rfl, hbl', hat'⟩ := kv.at_ hm0
      have hrl := kv.len
      have HV1 := qh (fun j (hj : j < l) => cell_on bV (hat' j hj))
      replace k1 := cell_on hb (cell_on bV k1)
      have zb' : b' < V.heap.size := Nat.lt_of_lt_of_le hbl' bV.size
      have HLE := qh hle
      obtain ⟨zs, hzs⟩ : ∃ z, rs.getD i [] = z := ⟨_, rfl⟩
      have HZS := qh hzs
      rw [hzs] at hrl HV1
      have HRL := qh hrl
      have zbo := Nat.lt_of_lt_of_le zb hb.size
      clear kv hat' hbl' hzs hrl hle
      go_wp2
      go_loopw [12, 73] (fun v u wr => ∃ (j cy : Nat) (Ay : Option Addr), u = .int .i64 (j : Int) ∧ v = .slice Ay j cy ∧ j ≤ l ∧ RowKit.Below wo.heap.size wo wr ∧ OwnZ wr wo.heap.size (.slice Ay j cy) j ((zs.take j).map (· + (d : Int))) ∧ ∀ v ∈ zs.take j, -300 ≤ v ∧ v ≤ 700) (fun _ u _ => l - (intOf u).toNat)
      case atStart => exact ⟨0, 0, none, rfl, rfl, Nat.zero_le _, bi, World.ownsRow_nil _ _ _ _, fun v hv => by simp at hv⟩
      case round =>
        obtain ⟨j, cy, Ay, rfl, rfl, hjl, hbj, hY, hT⟩ := hrel
        have _ := bm hbj
        have HY := qh (And.intro hY hT)
        clear hY hT
        have k2 := cell_on hbj k1
        by_cases hj : j < l
        · have q0 : decide (j < l) = true := by simpa using hj
          have HJ := qh hj
          obtain ⟨t, ht⟩ : ∃ t, zs.getD j 0 = t := ⟨_, rfl⟩
          have k3 := cell_on hbj (cell_on hb (HV1.out j hj))
          rw [ht] at k3
          have zb3 := World.block_lt_of_cell? wr _ k3
          dsimp only at zb3
          have e0 := cell_on hbj (cell_on hb HD.out.2.2.2.2)
          have zw : w.heap.size + 1 < wr.heap.size := by have := hb.size; have := hbj.size; omega
          have hts := take_snoc (zs := zs) (i := j) (by rw [HRL.out]; exact hj) ht
          have HTS := qh hts
          have hl64 := hm8
          clear hts ht
          by_cases h1 : t < -300
          · have q1 : decide (t < -300) = true := by rw [decide_eq_true_iff]; exact h1
            clear h1
            go_wp2_with (go_at_call 8; (with_reducible refine mo0 (HA.out _ (below_step bV (below_step hb bi))) fun w4 hb4 hc4 hf4 _ => ?_))
            go_ret
            exact ⟨rfl, below_step bV (below_step hb bi)⟩
          · have q1 : decide (t < -300) = false := by rw [decide_eq_false_iff_not]; exact h1
            by_cases h2 : 700 < t
            · have q2 : decide (700 < t) = true := by rw [decide_eq_true_iff]; exact h2
              clear h1 h2
              go_wp2_with (go_at_call 8; (with_reducible refine mo0 (HA.out _ (below_step bV (below_step hb bi))) fun w4 hb4 hc4 hf4 _ => ?_))
              go_ret
              exact ⟨rfl, below_step bV (below_step hb bi)⟩
            · have q2 : decide (700 < t) = false := by rw [decide_eq_false_iff_not]; exact h2
              have m1 : IntKind.i64.wrap (t + (d : Int)) = t + (d : Int) := smw (by omega)
              have HT1 : Hid (-300 ≤ t ∧ t ≤ 700) := qh ⟨by omega, by omega⟩
              clear h1 h2
              go_wp2_with (at_builtin; refine wpList_append_z (z := t + (d : Int)) (n := j) (base := wo.heap.size) rfl _ _ rfl rfl rfl rfl (HY.out.1.alloc _) (by omega) (by have := hbj.size; simp; omega) (by simp) ?_; intro A5 c5 w5 ho5 hg5 hl5)
              have hb5 : RowKit.Below wo.heap.size wo w5 := Below.trans (below_alloc hbj _) (grownB hg5 (by have := hbj.size; simp; omega) (fun j hj => OwnZ.ge HY.out.1 j hj))
              exact ⟨⟨j + 1, c5, A5, by simp, rfl, HJ.out, hb5, by rw [HTS.out, List.map_append]; exact ho5, fun v hv => by
                rw [HTS.out] at hv
                rcases List.mem_append.1 hv with hv | hv
                · exact HY.out.2 v hv
                · rw [List.mem_singleton.1 hv]; exact HT1.out⟩, by have := HJ.out; simp [intOf]; omega⟩
        · have q0 : decide (j < l) = false := by simpa using hj
          obtain rfl : j = l := by omega
          have hY := HY.out.1
          rw [List.take_of_length_le (by rw [HRL.out]; exact Nat.le_refl _)] at hY
          obtain ⟨g, cg, e9⟩ := own_pos hY hm0
          injection e9 with e9 _ e8
          subst e9 e8
          have HYY := qh hY
          clear hj hjl hY
          obtain ⟨⟨vs, hv1, hv2⟩, ⟨us, hu1, hu2⟩, hne⟩ := HP.out.1.below hbj
          have HVS := qh (And.intro hv1 hv2)
          have HUS := qh (And.intro hu1 hu2)
          have HPJ := qh (HP.out.1.below hbj)
          have HNE := qh hne
          have m2 : IntKind.i64.wrap ((k : Int) + 1) = (k : Int) + 1 := smw (by omega)
          have hle := HLE.out
          have hke : k + 1 ≤ e := by omega
          have hsV : V.heap.size ≤ wr.heap.size := Nat.le_trans hb.size hbj.size
          clear hv1 hv2 hu1 hu2 hne
          go_upto_region 16 with (fail)
          refine wp_region_T (fun _ => True) [] (by kernel_rfl) ?_
          refine tk 0 (.slice Aw i cw) [] rfl (by kernel_rfl) pk (by rfl) ?_ trivial ?_
          · intro w' hS'
            obtain _ := hS'
            go_simp
          simp only [ppq]
          refine tk 1 (.slice (some ⟨g, 0, none⟩) j cy) [] rfl (by kernel_rfl) pk (by rfl) ?_ trivial ?_
          · intro w' hS'
            obtain _ := hS'
            go_simp
          simp only [ppq]
          refine tk 4 (.slice Aa i ca) [] rfl (by kernel_rfl) pk (by rfl) ?_ trivial ?_
          · intro w' hS'
            obtain _ := hS'
            go_simp
          simp only [ppq]
          refine tk 5 (.slice (some ⟨b', o', none⟩) j e) [] rfl (by kernel_rfl) pk (by rfl) ?_ trivial ?_
          · intro w' hS'
            obtain _ := hS'
            go_simp
          simp only [ppq]
          refine tk 6 (.int .i64 (k : Int)) [] rfl (by kernel_rfl) pk (by rfl) ?_ trivial ?_
          · intro w' hS'
            obtain _ := hS'
            go_simp
          simp only [ppq]
          refine tk 7 (.int .i64 (k : Int)) [] rfl (by kernel_rfl) pk (by rfl) ?_ trivial ?_
          · intro w' hS'
            obtain _ := hS'
            go_simp
          simp only [ppq]
          refine tk 8 (.int .i64 ((k : Int) + 1)) [] rfl (by kernel_rfl) pk (by rfl) ?_ trivial ?_
          · intro w' hS'
            obtain _ := hS'
            go_simp
          simp only [ppq]
          have hq0 : (0 : Int) ≤ (k : Int) + 1 := by omega
          have hq1 : (k : Int) + 1 ≤ (e : Int) := by omega
          have hq2 : ¬ e = k := by omega
          refine tk 9 (.slice (some ⟨b', o' + k, none⟩) 1 (e - k)) [] rfl (by kernel_rfl) pk (by rfl) ?_ trivial ?_
          · intro w' hS'
            obtain _ := hS'
            go_simp
          simp only [ppq]
          have hzk : V.cell? ⟨b', o' + k, none⟩ = some (.int .i64 (at2 rs i k)) := by
            have := HV1.out k HKL.out
            rw [this]
            unfold at2
            rw [HZS.out]
          have HZK := qh hzk
          have HYZ : Hid (OwnZ wr V.heap.size (.slice (some ⟨g, 0, none⟩) j cy) j ((rs.getD i []).map (· + (d : Int)))) := qh (by rw [HZS.out]; exact own_le HYY.out hb.size)
          have ha0 : ∀ q, (Value.slice Aw i cw).ownBlock = some q → q < wr.heap.size := fun q hq => (World.ownsRow.lt HVS.out.1 q hq).2
          have HA0 := qh ha0
          have hi10 : i ≤ 100000 := by omega
          clear hzk ha0 hq0 hq1 hq2 hle hke m2
          refine wpAnyT_ready (rs := [2, 10]) (by kernel_rfl) (by simp) (AllT.cons rfl (fun K hK => ?o1) (AllT.cons rfl (fun K hK => ?o2) AllT.nil))
          case' o1 =>
            go_simp
            refine hK.out _ _ (fun _ => trivial) ?_
            clear hK K
            refine wpAnyT_ready (rs := [3, 10]) (by kernel_rfl) (by simp) (AllT.cons rfl (fun K hK => ?o3) (AllT.cons rfl (fun K hK => ?o4) AllT.nil))
            case' o3 =>
              rw [if_pos (by rfl)]
              refine gen_l (base := V.heap.size) (x := .slice (some ⟨g, 0, none⟩) j cy) _ _ rfl rfl rfl rfl (OwnL.below HVS.out.1 bi) hi10 (by first | omega | (simp; omega)) (by simp) rfl ?_
              intro A5 c5 w5 ho5 hg5 e5
              have b1 := below_src (W := wr) hg5 bi
              refine hK.out _ _ (fun _ => trivial) ?_
              clear hK K
              refine wpAnyT_ready (rs := [10]) (by kernel_rfl) (by simp) (AllT.cons rfl (fun K hK => ?_) AllT.nil)
              go_simp
              refine hK.out _ _ (fun _ => trivial) ?_
              clear hK K
            case' o4 =>
              go_simp
              refine hK.out _ _ (fun _ => trivial) ?_
              clear hK K
              refine wpAnyT_ready (rs := [3]) (by kernel_rfl) (by simp) (AllT.cons rfl (fun K hK => ?_) AllT.nil)
              rw [if_pos (by rfl)]
              refine gen_l (base := V.heap.size) (x := .slice (some ⟨g, 0, none⟩) j cy) _ _ rfl rfl rfl rfl (OwnL.below HVS.out.1 bi) hi10 (by first | omega | (simp; omega)) (by simp) rfl ?_
              intro A5 c5 w5 ho5 hg5 e5
              have b1 := below_src (W := wr) hg5 bi
              refine hK.out _ _ (fun _ => trivial) ?_
              clear hK K
          case' o2 =>
            go_simp
            refine hK.out _ _ (fun _ => trivial) ?_
            clear hK K
            refine wpAnyT_ready (rs := [2]) (by kernel_rfl) (by simp) (AllT.cons rfl (fun K hK => ?_) AllT.nil)
            go_simp
            refine hK.out _ _ (fun _ => trivial) ?_
            clear hK K
            refine wpAnyT_ready (rs := [3]) (by kernel_rfl) (by simp) (AllT.cons rfl (fun K hK => ?_) AllT.nil)
            rw [if_pos (by rfl)]
            refine gen_l (base := V.heap.size) (x := .slice (some ⟨g, 0, none⟩) j cy) _ _ rfl rfl rfl rfl (OwnL.below HVS.out.1 bi) hi10 (by first | omega | (simp; omega)) (by simp) rfl ?_
            intro A5 c5 w5 ho5 hg5 e5
            have b1 := below_src (W := wr) hg5 bi
            refine hK.out _ _ (fun _ => trivial) ?_
            clear hK K
          all_goals
            refine rd1 11 (by kernel_rfl) rfl (fun K hK => ?_)
            rw [if_pos (by rfl)]
            have hu5 : OwnL w5 V.heap.size (.slice Aa i ca) i us := own_keep HUS.out.1 (grown_then (below_grown b1) hg5) (fun g' e e' => HNE.out g' e' e)
            refine gen_l (base := V.heap.size) (x := .slice (some ⟨b', o' + k, none⟩) 1 (e - k)) _ _ rfl rfl rfl rfl (by first | exact hu5 | exact OwnL.below hu5 bi) hi10 (by first | exact Nat.le_trans hsV (Nat.le_trans b1.size hg5.size) | (simp; exact Nat.le_succ_of_le (Nat.le_trans hsV (Nat.le_trans b1.size hg5.size)))) (by first | (simp; done) | exact hg5.cell (by simp) (fun e => by have := HA0.out _ e.symm; first | omega | (simp at this; done) | (simp at this; omega))) rfl ?_
            intro A6 c6 w6 ho6 hg6 e6
            refine hK.out _ _ (fun _ => trivial) ?_
            clear hK K
            have hP6 : Pair V w6 j rs d k (i + 1) A5 c5 A6 c6 := Pair.step HPJ.out HYZ.out HZK.out HVS.out HUS.out (below_grown b1) hg5 ho5 e5 (by first | exact below_grown (Below.refl _ _) | exact below_grown bi) hg6 ho6 e6
            have hb6 : RowKit.Below V.heap.size V w6 := by
              have q1 : RowKit.Below V.heap.size V w5 := Below.trans (below_step (below_step hb hbj) b1) (grownB hg5 (Nat.le_trans hsV b1.size) (fun g' e => OwnL.ge HVS.out.1 g' e))
              have q2 := q1.size
              first | exact Below.trans q1 (grownB hg6 q2 (fun g' e => OwnL.ge HUS.out.1 g' e)) | exact Below.trans (below_alloc q1 _) (grownB hg6 (by simp; omega) (fun g' e => OwnL.ge HUS.out.1 g' e))
            clear hg5 hg6 ho5 ho6 e5 e6 hu5 b1
            refine rd1 12 (by kernel_rfl) rfl (fun K hK => ?_)
            go_simp
            refine hK.out _ _ (fun _ => trivial) ?_
            clear hK K
            refine rd1 13 (by kernel_rfl) rfl (fun K hK => ?_)
            go_simp
            refine hK.out _ _ (fun _ => trivial) ?_
            clear hK K
            refine wpAnyT_done (by kernel_rfl) ?_ _
            go_wp2
            go_roundw
            case rel => exact ⟨i + 1, c5, c6, A5, A6, by simp, rfl, rfl, HI.out, hb6, hP6, fun z hz => by
              rw [List.take_add_one, List.mem_append] at hz
              rcases hz with hz | hz
              · exact HP.out.2 z hz
              · have hil : i < rs.length := by rw [HH.out.len]; exact HI.out
                rw [List.getElem?_eq_getElem hil] at hz
                simp at hz
                have e1 := HZS.out
                rw [List.getD_eq_getElem?_getD, List.getElem?_eq_getElem hil] at e1
                have e1 : rs[i] = zs := e1
                intro v hv
                rw [hz, e1] at hv
                have := HY.out.2 v
                rw [List.take_of_length_le (by rw [HRL.out]; exact Nat.le_refl _)] at this
                exact this hv⟩
            case measure => (have := HI.out; simp [intOf]; omega)
    · have p0 : decide (i < n) = false := by simpa using hi
      obtain rfl : i = n := by omega
      obtain ⟨hP, hT⟩ := HP.out
      rw [List.take_of_length_le (by rw [HH.out.len]; exact Nat.le_refl _)] at hT
      obtain ⟨hRw, hRa, hcw, hca⟩ := hP.rows HH.out.len HGO.out.len HKL.out hb
      have bO := below_step bV hb
      obtain ⟨q, hq⟩ : ∃ q, N2 % i = q := ⟨_, rfl⟩
      have hqi : q < i := by rw [← hq]; exact Nat.mod_lt _ h0
      have mq : (N2 : Int).tmod (i : Int) = (q : Int) := by rw [← hq]; rfl
      obtain ⟨p, hp⟩ : ∃ p, q + 1 = p := ⟨_, rfl⟩
      have hpi : p ≤ i := by omega
      have hp1 : 1 ≤ p := by omega
      have hGw := good_warm HGO.out hT hd
      have hGa := good_alone HGO.out HKL.out
      have hGt := good_take (p := p) HGO.out
      have hx1 : 1 ≤ xi := by
        have := HX.out.1
        simp only [watchB, inB, Bool.and_eq_true, decide_eq_true_eq] at this
        exact this.2.2.2.1
      have hwx := watch_warm HX.out.1 HX.out.2 hd
      have hrl : rs.length = i := HH.out.len
      have hwl : (warmL rs d).length = i := by unfold warmL; rw [List.length_map, hrl]
      have hal : (aloneL rs k).length = i := by unfold aloneL; rw [List.length_map, hrl]
      have htl : (rs.take p).length = p := by rw [List.length_take, hrl]; omega
      have hmi : 3 * l0 * i ≤ 240 := by
        have : 3 * l0 * i ≤ 24 * 10 := Nat.mul_le_mul (by omega) hn
        exact this
      have hmq : 3 * l0 * p ≤ 240 := Nat.le_trans (Nat.mul_le_mul_left _ (by omega)) hmi
      obtain ⟨La, hLa⟩ : ∃ L, alT ⟨xa, xr, xi, xo⟩ l0 rs i = L := ⟨_, rfl⟩
      obtain ⟨Lc, hLc⟩ : ∃ L, alT ⟨xa, xr, xi, xo⟩ l0 rs p = L := ⟨_, rfl⟩
      obtain ⟨Ld, hLd⟩ : ∃ L, alT ⟨xa, xr, xi, xo⟩ 1 (aloneL rs k) i = L := ⟨_, rfl⟩
      have F1 := qh (fun W (hW : Below w.heap.size w W) => palarms_more (c := c) (x := ⟨xa, xr, xi, xo⟩) (HH.out.below hW) HC.out.1 HGO.out HX.out.1 (len_le HGO.out) HC.out.2.2 (by omega) (by omega))
      have F2 := qh (fun W (hW : Below wo.heap.size wo W) => palarms_more (c := cw) (x := ⟨xa + d, xr, xi, xo⟩) (hRw.below hW) hcw hGw hwx (len_le hGw) (good_read hGw (by omega)) (by omega) (by omega))
      have F3 := qh (fun W (hW : Below w.heap.size w W) => palarms_more (c := c) (x := ⟨xa, xr, xi, xo⟩) ((HH.out.below hW).first (p := p) (by omega)) (Nat.le_trans (by omega) HC.out.1) hGt HX.out.1 (len_le hGt) (good_read hGt (by omega)) (by omega) (by omega))
      have F4 := qh (fun W (hW : Below wo.heap.size wo W) => palarms_more (c := ca) (x := ⟨xa, xr, xi, xo⟩) (hRa.below hW) hca hGa HX.out.1 (len_le hGa) (good_read hGa (by omega)) (by omega) (by omega))
      have F5 := qh (fun W (hW : Below w.heap.size w W) => ranking_fine (c := c) (HH.out.below hW) HGO.out h0 HC.out.2.2 (by omega))
      have hal1 := warm_al (x := ⟨xa, xr, xi, xo⟩) (d := d) HGO.out hx1
      have hal2 := take_al (x := ⟨xa, xr, xi, xo⟩) (m := l0) (rs := rs) (p := p) (by omega) hx1
      have hal3 := alT_first (x := ⟨xa, xr, xi, xo⟩) (m := l0) (rs := rs) (p := p) (n := i) (by omega)
      have hal4 := alone_al (x := ⟨xa, xr, xi, xo⟩) HGO.out HKL.out
      have hlen : La.length ≤ 240 := by rw [← hLa]; exact Nat.le_trans (alT_len _ _ _ _) hmi
      have hlend : Ld.length ≤ 240 := by rw [← hLd]; exact Nat.le_trans (alT_len _ _ _ _) (by omega)
      rw [hrl] at hal1 hal4
      rw [hLa] at F1 hal1 hal3 hal4
      rw [hal1] at F2
      rw [hal2] at F3
      rw [hLc] at F3 hal3
      rw [hLd] at F4 hal4
      have HL := qh (And.intro hal3 (And.intro hal4 (And.intro hlen hlend)))
      have hd0 := cell_on hb HD.out.1
      have hd1 := cell_on hb HD.out.2.1
      have hd2 := cell_on hb HD.out.2.2.1
      have hd3 := cell_on hb HD.out.2.2.2.1
      have he0 := cell_on hb HD.out.2.2.2.2
      have he1 := cell_on hb HE1.out
      have zw : w.heap.size + 1 < wo.heap.size := Nat.lt_of_lt_of_le zU hb.size
      have hxa := HX.out.2
      have htw : -600 ≤ xa := by
        have := HX.out.1
        unfold watchB at this
        rw [Bool.and_eq_true] at this
        exact (tmp_sml this.1).1
      have m5 : IntKind.i64.wrap (xa + (d : Int)) = xa + (d : Int) := smw (by omega)
      clear hP hT hRw hRa hcw hca hq hGw hGa hGt hx1 hwx hrl hwl hal htl hmi hmq hLa hLc hLd hal1 hal2 hal3 hal4 hlen hlend hxa htw hi hin
      go_upto_region 20 with (fail)
      have BX := Blk.new wo 24 #[.int .i64 (xa + (d : Int)), .int .i64 xr, .int .i64 xi, .int .i64 xo]
      have bA1 : RowKit.Below wo.heap.size wo (wo.alloc (.cells #[.int .i64 (xa + (d : Int)), .int .i64 xr, .int .i64 xi, .int .i64 xo] 24)) := bA bR
      obtain ⟨U, hU⟩ : ∃ U, wo.alloc (.cells #[.int .i64 (xa + (d : Int)), .int .i64 xr, .int .i64 xi, .int .i64 xo] 24) = U := ⟨_, rfl⟩
      rw [hU] at BX bA1 ⊢
      have u0 := BX.cell 0
      have u1 := BX.cell 1
      have u2 := BX.cell 2
      have u3 := BX.cell 3
      have zX := BX.lt
      simp only [List.getElem?_toArray, List.getElem?_cons_zero, List.getElem?_cons_succ] at u0 u1 u2 u3
      replace hd0 := cell_on bA1 hd0
      replace hd1 := cell_on bA1 hd1
      replace hd2 := cell_on bA1 hd2
      replace hd3 := cell_on bA1 hd3
      replace he1 := cell_on bA1 he1
      have zwU : w.heap.size + 1 < U.heap.size := Nat.lt_of_lt_of_le zw bA1.size
      have zwU0 : w.heap.size < U.heap.size := by omega
      have bO1 := below_step bO bA1
      have mq2 : IntKind.i64.wrap (1 + (q : Int)) = (p : Int) := by rw [smw (by omega)]; omega
      have HBU := qh (And.intro bA1 bO1)
      clear hU BX he0 m5 bA1 bO1
      go_upto_region 23 with (first | ((go_at_call 9; (with_reducible refine (F1.out _ (below_step HBU.out.2 bi)).mono ?_); rintro e1 w1 ⟨A1, n1, c1, rfl, hr1, hb1⟩; obtain ⟨hc1, hf1, _⟩ := bc0 hb1); (first | have hy1_0 := szl (k := w.heap.size) hb1 (by first | go_size | fail) | have hy1_0 := Nat.one_pos); (first | have hy1_1 := szl (k := w.heap.size + 1) hb1 (by first | go_size | fail) | have hy1_1 := Nat.one_pos); (first | have hy1_2 := szl (k := wo.heap.size) hb1 (by first | go_size | fail) | have hy1_2 := Nat.one_pos)) | ((go_at_call 9; (with_reducible refine (F2.out _ (below_step HBU.out.1 bi)).mono ?_); rintro e2 w2 ⟨A2, n2, c2, rfl, hr2, hb2⟩; obtain ⟨hc2, hf2, _⟩ := bc0 hb2); (first | have hy2_0 := szl (k := w.heap.size) hb2 (by first | go_size | fail) | have hy2_0 := Nat.one_pos); (first | have hy2_1 := szl (k := w.heap.size + 1) hb2 (by first | go_size | fail) | have hy2_1 := Nat.one_pos); (first | have hy2_2 := szl (k := wo.heap.size) hb2 (by first | go_size | fail) | have hy2_2 := Nat.one_pos)))
      have hpc : p ≤ c := Nat.le_trans hpi HC.out.1
      have b2 := below_step HBU.out.2 (show RowKit.Below U.heap.size U w2 from bi)
      have b2o := below_step HBU.out.1 (show RowKit.Below U.heap.size U w2 from bi)
      have bU2 : RowKit.Below U.heap.size U w2 := bi
      have g0 := cell_on bU2 hd0
      have g1 := cell_on bU2 hd1
      have g2 := cell_on bU2 hd2
      have g3 := cell_on bU2 hd3
      have hr1 := hr1.1.below hb2
      have hcap1 := (show (n1 ≤ c1 ∧ (A1 = none ∧ c1 = 0 ∨ ∃ g, A1 = some ⟨g, 0, none⟩)) from ‹Lv w1 A1 n1 La ∧ n1 ≤ c1 ∧ _›.2)
      have HL1 := qh (And.intro hr1 (And.intro hcap1 hr2.1))
      have HB2 := qh (And.intro b2 b2o)
      have zw2 : w.heap.size < w2.heap.size := by have := bU2.size; omega
      clear hd0 hd1 hd2 hd3 he1 hc1 hc2 hf1 hf2 hb1 hb2 u0 u1 u2 u3 hr1 hr2 b2 b2o bU2
      refine wp_region_T (fun w' => Below w2.heap.size w2 w') [] (by kernel_rfl) ?_
      refine tb 0 (.slice (some ⟨b, o, none⟩) i c) [] rfl (by kernel_rfl) pk rfl (by intros; go_simp) bq0 ?_
      simp only [ppq]
      refine tb 1 (.int .i64 (p : Int)) [] rfl (by kernel_rfl) pk rfl (by intros; go_simp) bq0 ?_
      simp only [ppq]
      refine tb 2 (.slice (some ⟨b, o, none⟩) p c) [] rfl (by kernel_rfl) pk rfl (by intros; go_simp) bq0 ?_
      simp only [ppq]
      refine tb 3 (wtv ⟨xa, xr, xi, xo⟩) [] rfl (by kernel_rfl) pk rfl (by intros; go_simp) bq0 ?_
      simp only [ppq]
      refine rd1 4 (by kernel_rfl) rfl (fun K hK => ?_)
      go_simp
      go_wp2_with (go_at_call 9; (with_reducible refine (F3.out _ (below_step HB2.out.1 bi)).mono ?_); rintro e3 w3 ⟨A3, n3, c3, rfl, hr3, hb3⟩; obtain ⟨hc3, hf3, hz3_0, _⟩ := bc1 w hb3 (by go_size))
      have sS3 := qh (bst bq0 hb3)
      refine hK.out _ _ (fun _ => sS3.out) ?_
      clear hK K
      refine rd1 5 (by kernel_rfl) rfl (fun K hK => ?_)
      go_simp
      refine hK.out _ _ (fun _ => bi) ?_
      clear hK K
      refine tb 6 (.slice A3 n3 c3) [] rfl (by kernel_rfl) pk rfl (by intros; go_simp) sS3.out ?_
      simp only [ppq]
      refine tb 7 (.int .i64 0) [] rfl (by kernel_rfl) pk rfl (by intros; go_simp) sS3.out ?_
      simp only [ppq]
      refine rd1 8 (by kernel_rfl) rfl (fun K hK => ?_)
      go_simp
      refine hK.out _ _ (fun _ => bi) ?_
      clear hK K
      refine rd1 9 (by kernel_rfl) rfl (fun K hK => ?_)
      go_simp
      refine hK.out _ _ (fun _ => bi) ?_
      clear hK K
      refine wpAnyT_done (by kernel_rfl) ?_ _
      have HL3 := qh hr3.1
      have bW3 : RowKit.Below w2.heap.size w2 w3 := bi
      have hg0 := cell_on bW3 g0
      have hg1 := cell_on bW3 g1
      have hg2 := cell_on bW3 g2
      have hg3 := cell_on bW3 g3
      have HB3 := qh (And.intro (below_step HB2.out.1 bW3) (And.intro (below_step HB2.out.2 bW3) bW3))
      have zw3 : w.heap.size < w3.heap.size := by have := bW3.size; omega
      clear g0 g1 g2 g3 hc3 hf3 hb3 bW3 hr3 sS3
      go_upto_region 26 with (first | ((go_at_call 9; (with_reducible refine (F4.out _ (below_step HB3.out.2.1 bi)).mono ?_); rintro e4 w4 ⟨A4, n4, c4, rfl, hr4, hb4⟩; obtain ⟨hc4, hf4, _⟩ := bc0 hb4); (first | have hy4_0 := szl (k := w.heap.size) hb4 (by first | go_size | fail) | have hy4_0 := Nat.one_pos)) | ((go_at_call 10; (with_reducible refine (F5.out _ (below_step HB3.out.1 bi)).mono ?_); rintro e5 w5 ⟨A5, n5, c5, rfl, hr5, hb5⟩; obtain ⟨hc5, hf5, _⟩ := bc0 hb5); (first | have hy5_0 := szl (k := w.heap.size) hb5 (by first | go_size | fail) | have hy5_0 := Nat.one_pos)))
      have hB5 : RowKit.Below w3.heap.size w3 w5 := bi
      have hL5 := qh (And.intro (HL1.out.1.below (below_step HB3.out.2.2 hB5)) (And.intro (HL1.out.2.2.below (below_step HB3.out.2.2 hB5)) (And.intro (HL3.out.below hB5) (And.intro (hr4.1.below hb5) hr5))))
      have HB5 := qh (below_step HB3.out.1 hB5)
      have HBO := qh (below_step HB3.out.2.1 hB5)
      have hc1 := HL1.out.2.1
      clear hg0 hg1 hg2 hg3 hc4 hf4 hb4 hc5 hf5 hb5 hr4 hr5 hB5 F1 F2 F3 F4 F5
      go_cut [200] (fun v wx => v = .bool false ∧ RowKit.Below w5.heap.size w5 wx)
      case first =>
        have hLa := hL5.out.1.len
        have hLc := hL5.out.2.2.1.len
        obtain ⟨t1, t2, t3⟩ := HL.out.1
        rw [hLa, hLc] at t1 t3
        rw [hLc] at t2
        have q1 : decide (n1 < n3) = false := by rw [decide_eq_false_iff_not]; omega
        have q2 : decide ((n1 : Int) < (n3 : Int)) = false := by rw [decide_eq_false_iff_not]; omega
        have hn1 := HL.out.2.2.1
        rw [hLa] at hn1
        have G1 := qh (fun W (hW : RowKit.Below w5.heap.size w5 W) => sameAlarms_fact (c := c1) (d := c2) (r := true) (hL5.out.1.below hW) (hL5.out.2.1.below hW) (by omega) (by simp))
        obtain ⟨hcap, ⟨rfl, rfl⟩ | ⟨g1, rfl⟩⟩ := hc1
        · have hn0 : n1 = 0 := by omega
          have hn3 : n3 = 0 := by omega
          have G2 := qh (fun W (hW : RowKit.Below w5.heap.size w5 W) => sameAlarms_fact (c := c3) (d := 0) (r := true) (hL5.out.2.2.1.below hW) (B := none) (m := n3) (qs := Lc) ⟨hLc, fun h => by omega⟩ (by omega) (by simp))
          subst hn0 hn3
          clear t1 t2 t3 hLa hLc hcap HL hL5 HL1 HL3
          go_wp2_with (first | (go_at_call 18; (with_reducible refine mo0 (G1.out _ bi) fun w6 hb6 hc6 hf6 _ => ?_)) | (go_at_call 18; (with_reducible refine mo0 (G2.out _ bi) fun w7 hb7 hc7 hf7 _ => ?_)))
          go_meet
          exact ⟨rfl, bi⟩
        · have hsl : Lv w5 (some ⟨g1, 0, none⟩) n3 Lc := by
            have := hL5.out.1.first t1
            rwa [t2] at this
          have G2 := qh (fun W (hW : RowKit.Below w5.heap.size w5 W) => sameAlarms_fact (c := c3) (d := c1) (r := true) (hL5.out.2.2.1.below hW) (hsl.below hW) (by omega) (by simp))
          have h31 : n3 ≤ c1 := by omega
          have HL5 := qh hL5.out.1
          clear hLa hLc hcap HL hL5 HL1 HL3 t2 hsl
          by_cases h3 : n3 < n1
          · have q3 : decide (n3 < n1) = true := by rw [decide_eq_true_iff]; exact h3
            have q4 : decide ((n3 : Int) < (n1 : Int)) = true := by rw [decide_eq_true_iff]; omega
            have ht := t3 n3 (Nat.le_refl _) h3
            obtain ⟨bq, oq, eq, zq, hcq⟩ := HL5.out.at_ (by omega)
            cases eq
            have kq := (hcq n3 h3).1
            rw [Nat.zero_add] at kq
            obtain ⟨T, hT⟩ : ∃ T, (La.getD n3 (0, 0, [])).1 = T := ⟨_, rfl⟩
            rw [hT] at kq ht
            have q5 : decide (T < (p : Int)) = false := by rw [decide_eq_false_iff_not]; omega
            clear hcq ht hT t1 t3
            go_wp2_with (first | ((go_at_call 18; (with_reducible refine mo0 (G1.out _ bi) fun w6 hb6 hc6 hf6 _ => ?_)); (first | have hy6_0 := szl (k := g1) hb6 (by first | go_size | fail) | have hy6_0 := Nat.one_pos)) | ((go_at_call 18; (with_reducible refine mo0 (G2.out _ bi) fun w7 hb7 hc7 hf7 _ => ?_)); (first | have hy7_0 := szl (k := g1) hb7 (by first | go_size | fail) | have hy7_0 := Nat.one_pos)))
            go_meet
            exact ⟨rfl, bi⟩
          · have q3 : decide (n3 < n1) = false := by rw [decide_eq_false_iff_not]; exact h3
            have q4 : decide ((n3 : Int) < (n1 : Int)) = false := by rw [decide_eq_false_iff_not]; omega
            clear t1 t3
            go_wp2_with (first | (go_at_call 18; (with_reducible refine mo0 (G1.out _ bi) fun w6 hb6 hc6 hf6 _ => ?_)) | (go_at_call 18; (with_reducible refine mo0 (G2.out _ bi) fun w7 hb7 hc7 hf7 _ => ?_)))
            go_meet
            exact ⟨rfl, bi⟩
      case rest =>
        obtain ⟨rfl, hbc⟩ := hcut
        have _ := bm hbc
        have hLa := hL5.out.1.below hbc
        have hLd := hL5.out.2.2.2.1.below hbc
        have hLr := hL5.out.2.2.2.2.below hbc
        have HLs := qh (And.intro hLa (And.intro hLd hLr))
        have HBC := qh (below_step HB5.out hbc)
        have hn240 := HL.out.2.2.1
        rw [hLa.len] at hn240
        have hn241 := HL.out.2.2.2
        rw [hLd.len] at hn241
        clear hLa hLd hLr hc1 hL5 HL1 HL3 hbc HBO HB5 HBU HB2 HB3
        go_wp2
        go_loopw [27, 203] (fun v u wr => ∃ (j nh ch : Nat) (Ah : Option Addr), u = .int .i64 (j : Int) ∧ v = .slice Ah nh ch ∧ j ≤ n1 ∧ RowKit.Below wc.heap.size wc wr ∧ OwnZ wr wc.heap.size (.slice Ah nh ch) nh (((La.take j).filter (isHot k)).map (·.1))) (fun _ u _ => n1 - (intOf u).toNat)
        case atStart => exact ⟨0, 0, 0, none, rfl, rfl, Nat.zero_le _, bi, World.ownsRow_nil _ _ _ _⟩
        case round =>
          obtain ⟨j, nh, ch, Ah, rfl, rfl, hjn, hbh, how⟩ := hrel
          have _ := bm hbh
          rename World => wh
          have HOH := qh how
          clear how
          by_cases hj : j < n1
          · have p0 : decide (j < n1) = true := by simpa using hj
            have HJ := qh hj
            have hLw := HLs.out.1.below hbh
            obtain ⟨bq, oq, rfl, zq, hcq⟩ := hLw.at_ (by omega)
            obtain ⟨k1, k2, k3⟩ := hcq j hj
            have hjl : j < La.length := by rw [hLw.len]; exact hj
            have htk : La.take (j + 1) = La.take j ++ [La.getD j (0, 0, [])] := by
              rw [List.take_add_one, List.getElem?_eq_getElem hjl, List.getD_eq_getElem?_getD, List.getElem?_eq_getElem hjl]; rfl
            obtain ⟨⟨z1, z2, z3⟩, hz⟩ : ∃ z, La.getD j (0, 0, []) = z := ⟨_, rfl⟩
            rw [hz] at k1 k2 k3 htk
            dsimp only at k1 k2 k3
            have hnh : nh ≤ 100000 := by
              have := HOH.out.1
              rw [List.length_map, List.length_map] at this
              have h2 := List.length_filter_le (isHot k) (La.take j)
              rw [List.length_take] at h2
              omega
            have HTK : Hid (((La.take (j + 1)).filter (isHot k)).map (·.1) = ((La.take j).filter (isHot k)).map (·.1) ++ (if isHot k (z1, z2, z3) then [z1] else [])) := qh (by
              rw [htk, List.filter_append, List.map_append, List.filter_cons, List.filter_nil]
              split <;> rfl)
            have hz2 := hbh.size
            clear hcq hLw htk hz hjl
            by_cases f1 : z2 = (k : Int)
            · have q1 : (z2 == (k : Int)) = true := by rw [beq_iff_eq]; exact f1
              by_cases f2 : z3 = kindT 0
              · have e3 : isHot k (z1, z2, z3) = true := by unfold isHot; rw [decide_eq_true f1, decide_eq_true f2]; rfl
                rw [e3] at HTK
                subst f1 f2
                go_wp2_with (at_builtin; refine wpList_append_z (z := z1) (n := nh) (base := wc.heap.size) rfl _ _ rfl rfl rfl rfl ((HOH.out.alloc _).alloc _) hnh (by simp; omega) (by simp) ?_; intro A7 c7 w7 ho7 hg7 hl7)
                have hb7 : RowKit.Below wc.heap.size wc w7 := Below.trans (below_alloc (below_alloc hbh _) _) (grownB hg7 (by simp; omega) (fun j hj => OwnZ.ge HOH.out j hj))
                exact ⟨⟨j + 1, nh + 1, c7, A7, by simp, rfl, HJ.out, hb7, by rw [HTK.out]; exact ho7⟩, by have := HJ.out; simp [intOf]; omega⟩
              · have e3 : isHot k (z1, z2, z3) = false := by unfold isHot; rw [decide_eq_false f2, Bool.and_false]
                rw [e3] at HTK
                have q2 : (z3 == [104, 111, 116]) = false := by rw [beq_eq_false_iff_ne]; exact f2
                subst f1
                go_wp2
                exact ⟨⟨j + 1, nh, ch, Ah, by simp, rfl, HJ.out, below_alloc hbh _, by rw [HTK.out, if_neg (by decide), List.append_nil]; exact HOH.out.alloc _⟩, by have := HJ.out; simp [intOf]; omega⟩
            · have q1 : (z2 == (k : Int)) = false := by rw [beq_eq_false_iff_ne]; exact f1
              have e3 : isHot k (z1, z2, z3) = false := by unfold isHot; rw [decide_eq_false f1, Bool.false_and]
              rw [e3] at HTK
              go_wp2
              exact ⟨⟨j + 1, nh, ch, Ah, by simp, rfl, HJ.out, below_alloc hbh _, by rw [HTK.out, if_neg (by decide), List.append_nil]; exact HOH.out.alloc _⟩, by have := HJ.out; simp [intOf]; omega⟩
          · have p0 : decide (j < n1) = false := by simpa using hj
            have hhot := HOH.out
            rw [show j = n1 by omega, List.take_of_length_le (by rw [HLs.out.1.len]; exact Nat.le_refl _)] at hhot
            have HHO := qh hhot
            clear hj hjn hhot
            go_wp2
            have HLh := qh (HLs.out.2.1.below hbh)
            go_loopw [28, 224] (fun v u wr => ∃ (j no co : Nat) (Ao : Option Addr), u = .int .i64 (j : Int) ∧ v = .slice Ao no co ∧ j ≤ n4 ∧ RowKit.Below wh.heap.size wh wr ∧ OwnZ wr wh.heap.size (.slice Ao no co) no (((Ld.take j).filter fun p => decide (p.2.2 = kindT 0)).map (·.1))) (fun _ u _ => n4 - (intOf u).toNat)
            case atStart => exact ⟨0, 0, 0, none, rfl, rfl, Nat.zero_le _, bi, World.ownsRow_nil _ _ _ _⟩
            case round =>
              obtain ⟨j, no, co, Ao, rfl, rfl, hjn, hbo, how⟩ := hrel
              have _ := bm hbo
              have HOO := qh how
              clear how
              by_cases hj : j < n4
              · have p0 : decide (j < n4) = true := by simpa using hj
                have HJ := qh hj
                have hLw := HLh.out.below hbo
                obtain ⟨bq, oq, rfl, zq, hcq⟩ := hLw.at_ (by omega)
                obtain ⟨k1, k2, k3⟩ := hcq j hj
                have hjl : j < Ld.length := by rw [hLw.len]; exact hj
                have htk : Ld.take (j + 1) = Ld.take j ++ [Ld.getD j (0, 0, [])] := by
                  rw [List.take_add_one, List.getElem?_eq_getElem hjl, List.getD_eq_getElem?_getD, List.getElem?_eq_getElem hjl]; rfl
                obtain ⟨⟨z1, z2, z3⟩, hz⟩ : ∃ z, Ld.getD j (0, 0, []) = z := ⟨_, rfl⟩
                rw [hz] at k1 k2 k3 htk
                dsimp only at k1 k2 k3
                have hno : no ≤ 100000 := by
                  have := HOO.out.1
                  rw [List.length_map, List.length_map] at this
                  have h2 := List.length_filter_le (fun p : Alm => decide (p.2.2 = kindT 0)) (Ld.take j)
                  rw [List.length_take] at h2
                  omega
                have HTK : Hid (((Ld.take (j + 1)).filter fun p => decide (p.2.2 = kindT 0)).map (·.1) = ((Ld.take j).filter fun p => decide (p.2.2 = kindT 0)).map (·.1) ++ (if decide (z3 = kindT 0) then [z1] else [])) := qh (by
                  rw [htk, List.filter_append, List.map_append, List.filter_cons, List.filter_nil]
                  split <;> rfl)
                have hz2 := hbo.size
                clear hcq hLw htk hz hjl
                by_cases f2 : z3 = kindT 0
                · have e3 : decide (z3 = kindT 0) = true := decide_eq_true f2
                  rw [e3] at HTK
                  subst f2
                  go_wp2_with (at_builtin; refine wpList_append_z (z := z1) (n := no) (base := wh.heap.size) rfl _ _ rfl rfl rfl rfl ((HOO.out.alloc _).alloc _) hno (by simp; omega) (by simp) ?_; intro A7 c7 w7 ho7 hg7 hl7)
                  have hb7 : RowKit.Below wh.heap.size wh w7 := Below.trans (below_alloc (below_alloc hbo _) _) (grownB hg7 (by simp; omega) (fun j hj => OwnZ.ge HOO.out j hj))
                  exact ⟨⟨j + 1, no + 1, c7, A7, by simp, rfl, HJ.out, hb7, by rw [HTK.out]; exact ho7⟩, by have := HJ.out; simp [intOf]; omega⟩
                · have e3 : decide (z3 = kindT 0) = false := decide_eq_false f2
                  rw [e3] at HTK
                  have q2 : (z3 == [104, 111, 116]) = false := by rw [beq_eq_false_iff_ne]; exact f2
                  go_wp2
                  exact ⟨⟨j + 1, no, co, Ao, by simp, rfl, HJ.out, below_alloc hbo _, by rw [HTK.out, if_neg (by decide), List.append_nil]; exact HOO.out.alloc _⟩, by have := HJ.out; simp [intOf]; omega⟩
              · have p0 : decide (j < n4) = false := by simpa using hj
                have hown := HOO.out
                rw [show j = n4 by omega, List.take_of_length_le (by rw [HLs.out.2.1.len]; exact Nat.le_refl _), HL.out.2.1] at hown
                have hhot := OwnZ.below HHO.out hbo
                have hlh : (((La.filter (isHot k)).map (·.1)) : List Int).length = nh := by
                  have := hhot.1
                  rw [List.length_map] at this
                  omega
                have hlo : (((La.filter (isHot k)).map (·.1)) : List Int).length = no := by
                  have := hown.1
                  rw [List.length_map] at this
                  omega
                have hnh : nh ≤ 100000 := by
                  rw [← hlh, List.length_map]
                  have := List.length_filter_le (isHot k) La
                  rw [HLs.out.1.len] at this
                  omega
                have J1 := qh (fun W (hW : RowKit.Below wr.heap.size wr W) => ints_fact (c := ch) (d := co) (r := true) ((OwnZ.iv hhot hlh).below hW) ((OwnZ.iv hown hlo).below hW) hnh (by simp))
                have hbw := below_step (below_step HBC.out hbh) hbo
                obtain ⟨B9, l9, e9, k9, kv9⟩ := HAT.out (i - 1) (by omega)
                have hl9 : l9 = l0 := by rw [← HGO.out.len _ (getD_in (d := ([] : List Int)) (show i - 1 < rs.length by rw [HH.out.len]; omega))]; exact kv9.len.symm
                subst hl9
                have hn5 : n5 = l9 := by
                  have := HLs.out.2.2.len
                  rw [List.length_map, rkL_len] at this
                  exact this.symm
                subst hn5
                have hrk := HLs.out.2.2.below (below_step hbh hbo)
                have J2 := qh (fun W (hW : RowKit.Below wr.heap.size wr W) => falling_ok (c := e9) (d := c5) ((kv9.below hbw).below hW) (hrk.below hW) (by omega) ((rkL_perm _ _ _).symm.nodup List.nodup_range) (rkL_lt _ _ _) (fun u hu1 hu2 => by
                  have hs := List.pairwise_iff_getElem.1 (rkL_sorted (lastR rs) (beforeR rs) n5) (u - 1) u (by rw [rkL_len]; omega) (by rw [rkL_len]; exact hu2) (by omega)
                  unfold leK at hs
                  rw [rkV_lt, rkV_lt] at hs
                  rw [List.getD_eq_getElem?_getD (l := rkL _ _ _), List.getElem?_eq_getElem (by rw [rkL_len]; exact hu2), List.getD_eq_getElem?_getD (l := rkL _ _ _), List.getElem?_eq_getElem (by rw [rkL_len]; omega)]
                  unfold lastR at hs ⊢
                  rw [HH.out.len] at hs ⊢
                  simp only [Option.getD_some]
                  omega))
                obtain ⟨ti, hti⟩ : ∃ t, i - 1 = t := ⟨_, rfl⟩
                rw [hti] at k9
                replace k9 := cell_on hbw k9
                have zb9 := World.block_lt_of_cell? wr _ k9
                dsimp only at zb9
                have mt : IntKind.i64.wrap ((i : Int) - 1) = (ti : Int) := by rw [smw (by omega)]; omega
                have htii : ti < i := by omega
                have HBW := qh hbw
                clear hj hjn hown hhot hlh hlo hnh hbw kv9 hrk hti
                go_wp2_with (first | ((go_at_call 16; (with_reducible refine mo0 (J1.out _ bi) fun w8 hb8 hc8 hf8 _ => ?_)); (first | have hy8_0 := szl (k := b) hb8 (by first | go_size | fail) | have hy8_0 := Nat.one_pos)) | (go_at_call 20; (with_reducible refine mo0 (J2.out _ bi) fun w9 hb9 hc9 hf9 _ => ?_)) | (go_at_call 8; (with_reducible refine mo0 (HA.out _ (below_step HBW.out bi)) fun w10 hb10 hc10 hf10 _ => ?_)))
                go_ret
                exact ⟨rfl, below_step HBW.out bi⟩
end
end Go.Proofs.YtnbnoacadhoimaaGreatDoor
