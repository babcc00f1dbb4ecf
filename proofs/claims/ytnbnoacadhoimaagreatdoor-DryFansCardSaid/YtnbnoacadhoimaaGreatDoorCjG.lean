/- The order of the ranking: by temperatures, then by their rises. -/
import Derived.Test.YtnbnoacadhoimaaGreatDoorCcG
import Derived.Test.YtnbnoacadhoimaaGreatDoorDeG
import Derived.Test.YtnbnoacadhoimaaGreatDoorDbG
import Derived.Laws.EntriesVeiled
set_option linter.unusedSimpArgs false
set_option linter.unusedVariables false
set_option maxRecDepth 100000
set_option maxHeartbeats 8000000
namespace Go.Proofs.YtnbnoacadhoimaaGreatDoor
open Go Go.RowKit Go.Sort

/-- What the comparisons read: the last row and the one before it. -/
structure RkW (W : World) (p5 p6 p9 q bl ol cl bb ob cb l : Nat) (la be : List Int) : Prop where
  c5 : W.cell? ⟨p5, 0, none⟩ = some (.slice (some ⟨bl, ol, none⟩) l cl)
  c6 : W.cell? ⟨p6, 0, none⟩ = some (.slice (some ⟨bb, ob, none⟩) l cb)
  c9 : W.cell? ⟨p9, 0, none⟩ = some (.func (.func 47) #[] #[.pointer (some ⟨p5, 0, none⟩), .pointer (some ⟨p6, 0, none⟩)])
  q0 : W.cell? ⟨q, 0, none⟩ = some (.func (.func 49) #[] #[.pointer (some ⟨p5, 0, none⟩)])
  q1 : W.cell? ⟨q, 1, none⟩ = some (.func (.func 50) #[] #[.pointer (some ⟨p9, 0, none⟩)])
  cl : ∀ j, j < l → W.cell? ⟨bl, ol + j, none⟩ = some (.int .i64 (la.getD j 0))
  cb : ∀ j, j < l → W.cell? ⟨bb, ob + j, none⟩ = some (.int .i64 (be.getD j 0))
  sm : ∀ j, j < l → (-600 ≤ la.getD j 0 ∧ la.getD j 0 ≤ 1000) ∧ -600 ≤ be.getD j 0 ∧ be.getD j 0 ≤ 1000
theorem RkW.on {W W' : World} {p5 p6 p9 q bl ol cl bb ob cb l : Nat} {la be : List Int} (h : RkW W p5 p6 p9 q bl ol cl bb ob cb l la be) (e : ∀ B z, (B = p5 ∨ B = p6 ∨ B = p9 ∨ B = q ∨ B = bl ∨ B = bb) → W'.cell? ⟨B, z, none⟩ = W.cell? ⟨B, z, none⟩) : RkW W' p5 p6 p9 q bl ol cl bb ob cb l la be :=
  ⟨by rw [e _ _ (by simp)]; exact h.c5, by rw [e _ _ (by simp)]; exact h.c6, by rw [e _ _ (by simp)]; exact h.c9, by rw [e _ _ (by simp)]; exact h.q0, by rw [e _ _ (by simp)]; exact h.q1, fun j hj => by rw [e _ _ (by simp)]; exact h.cl j hj, fun j hj => by rw [e _ _ (by simp)]; exact h.cb j hj, h.sm⟩
def rkV (la be : List Int) (i j : Nat) : Int := if la.getD j 0 - la.getD i 0 = 0 then (la.getD j 0 - be.getD j 0) - (la.getD i 0 - be.getD i 0) else la.getD j 0 - la.getD i 0
def cfK (la be : List Int) {n : Nat} (i j : Fin n) : Int := rkV la be i.val j.val
theorem rkV_lt (la be : List Int) (i j : Nat) : rkV la be i j < 0 ↔ la.getD j 0 < la.getD i 0 ∨ la.getD j 0 = la.getD i 0 ∧ la.getD j 0 - be.getD j 0 < la.getD i 0 - be.getD i 0 := by
  unfold rkV; split <;> omega
theorem cfK_swo (la be : List Int) (n : Nat) : SWO (ltOf (cfK la be (n := n))) where
  irrefl x := by simp [ltOf, cfK, rkV]
  trans x y z := by simp only [ltOf, cfK, rkV_lt, decide_eq_true_iff]; omega
  ntrans x y z := by simp only [ltOf, cfK, rkV_lt, decide_eq_false_iff_not]; omega
section
variable {W : World} {p5 p6 p9 q bl ol cl bb ob cb l : Nat} {la be : List Int}
theorem smw {x : Int} (h : -100000 ≤ x ∧ x ≤ 100000) : IntKind.i64.wrap x = x := by
  simp [IntKind.wrap, IntKind.bits, IntKind.signed]; omega
theorem rk1 {i : Nat} (h : RkW W p5 p6 p9 q bl ol cl bb ob cb l la be) (hi : i < l) :
    Calls Tryz.prog 47 #[.int .i64 (i : Int), .pointer (some ⟨p5, 0, none⟩), .pointer (some ⟨p6, 0, none⟩)] W fun e w' => e = .returned (.int .i64 (la.getD i 0 - be.getD i 0)) ∧ ∃ q, w' = W.drewN q := by
  have k1 := h.cl i hi
  have k2 := h.cb i hi
  have k5 := h.c5
  have k6 := h.c6
  have hs := h.sm i hi
  obtain ⟨x, hx⟩ : ∃ x, la.getD i 0 = x := ⟨_, rfl⟩
  obtain ⟨y, hy⟩ : ∃ x, be.getD i 0 = x := ⟨_, rfl⟩
  rw [hx] at k1 hs ⊢
  rw [hy] at k2 hs ⊢
  have m1 := smw (x := x - y) (by omega)
  clear h hs hx hy
  go_enter Tryz.func47, Tryz.ntmps47
  go_wp2
  go_quiet (fail)
  go_wp2
  go_ret
  exact ⟨rfl, _, rfl⟩
theorem rk2 {i j : Nat} (h : RkW W p5 p6 p9 q bl ol cl bb ob cb l la be) (hi : i < l) (hj : j < l) :
    Calls Tryz.prog 49 #[.int .i64 (i : Int), .int .i64 (j : Int), .pointer (some ⟨p5, 0, none⟩)] W fun e w' => e = .returned (.int .i64 (la.getD j 0 - la.getD i 0)) ∧ ∃ q, w' = W.drewN q := by
  have k1 := h.cl i hi
  have k2 := h.cl j hj
  have k5 := h.c5
  have hs := h.sm i hi
  have hs2 := h.sm j hj
  obtain ⟨x, hx⟩ : ∃ x, la.getD i 0 = x := ⟨_, rfl⟩
  obtain ⟨y, hy⟩ : ∃ x, la.getD j 0 = x := ⟨_, rfl⟩
  rw [hx] at k1 hs ⊢
  rw [hy] at k2 hs2 ⊢
  have m1 := smw (x := y - x) (by omega)
  clear h hs hs2 hx hy
  go_enter Tryz.func49, Tryz.ntmps49
  go_wp2
  go_quiet (fail)
  go_wp2
  go_ret
  exact ⟨rfl, _, rfl⟩
theorem RkW.drewN (h : RkW W p5 p6 p9 q bl ol cl bb ob cb l la be) (n : Nat) : RkW (W.drewN n) p5 p6 p9 q bl ol cl bb ob cb l la be := h.on fun _ _ _ => rfl
theorem rk1q {i : Nat} (h : RkW W p5 p6 p9 q bl ol cl bb ob cb l la be) (hi : i < l) (n : Nat) :
    Calls Tryz.prog 47 #[.int .i64 (i : Int), .pointer (some ⟨p5, 0, none⟩), .pointer (some ⟨p6, 0, none⟩)] (W.drewN n) fun e w' => e = .returned (.int .i64 (la.getD i 0 - be.getD i 0)) ∧ ∃ q, w' = W.drewN q :=
  (rk1 (h.drewN n) hi).mono fun e w' ⟨a, r, b⟩ => ⟨a, n + r, by rw [b, World.drewN_drewN]⟩
theorem rk3 {i j : Nat} (h : RkW W p5 p6 p9 q bl ol cl bb ob cb l la be) (hi : i < l) (hj : j < l) :
    Calls Tryz.prog 50 #[.int .i64 (i : Int), .int .i64 (j : Int), .pointer (some ⟨p9, 0, none⟩)] W fun e w' => e = .returned (.int .i64 ((la.getD j 0 - be.getD j 0) - (la.getD i 0 - be.getD i 0))) ∧ ∃ q, w' = W.drewN q := by
  have k9 := h.c9
  have hs := h.sm i hi
  have hs2 := h.sm j hj
  have H1 := qh (fun n => rk1q h hi n)
  have H2 := qh (fun n => rk1q h hj n)
  obtain ⟨x, hx⟩ : ∃ x, la.getD i 0 - be.getD i 0 = x := ⟨_, rfl⟩
  obtain ⟨y, hy⟩ : ∃ x, la.getD j 0 - be.getD j 0 = x := ⟨_, rfl⟩
  have m1 := smw (x := y - x) (by omega)
  rw [hx] at H1 ⊢
  rw [hy] at H2 ⊢
  clear h hs hs2 hx hy
  go_enter Tryz.func50, Tryz.ntmps50
  go_wp2
  go_quiet (first | ((go_at_call 47; with_reducible exact H2.out _)) | ((go_at_call 47; with_reducible exact H1.out _)))
  go_wp2
  go_ret
  exact ⟨rfl, _, rfl⟩
theorem rk2q {i j : Nat} (h : RkW W p5 p6 p9 q bl ol cl bb ob cb l la be) (hi : i < l) (hj : j < l) (n : Nat) :
    Calls Tryz.prog 49 #[.int .i64 (i : Int), .int .i64 (j : Int), .pointer (some ⟨p5, 0, none⟩)] (W.drewN n) fun e w' => e = .returned (.int .i64 (la.getD j 0 - la.getD i 0)) ∧ ∃ q, w' = W.drewN q :=
  (rk2 (h.drewN n) hi hj).mono fun e w' ⟨a, r, b⟩ => ⟨a, n + r, by rw [b, World.drewN_drewN]⟩
theorem rk3q {i j : Nat} (h : RkW W p5 p6 p9 q bl ol cl bb ob cb l la be) (hi : i < l) (hj : j < l) (n : Nat) :
    Calls Tryz.prog 50 #[.int .i64 (i : Int), .int .i64 (j : Int), .pointer (some ⟨p9, 0, none⟩)] (W.drewN n) fun e w' => e = .returned (.int .i64 ((la.getD j 0 - be.getD j 0) - (la.getD i 0 - be.getD i 0))) ∧ ∃ q, w' = W.drewN q :=
  (rk3 (h.drewN n) hi hj).mono fun e w' ⟨a, r, b⟩ => ⟨a, n + r, by rw [b, World.drewN_drewN]⟩
theorem by2_num {p : Nat} {i j : Nat} (h1 : W.cell? ⟨p, 0, none⟩ = some (.slice (some ⟨q, 0, none⟩) 2 2)) (h : RkW W p5 p6 p9 q bl ol cl bb ob cb l la be) (hi : i < l) (hj : j < l) :
    Calls Tryz.prog 108 #[.int .i64 (i : Int), .int .i64 (j : Int), .pointer (some ⟨p, 0, none⟩)] W fun e w' => e = .returned (.int .i64 (rkV la be i j)) ∧ ∃ q, w' = W.drewN q := by
  have H2 := qh (fun n => rk2q h hi hj n)
  have H3 := qh (fun n => rk3q h hi hj n)
  have k0 := h.q0
  have k1 := h.q1
  unfold rkV
  obtain ⟨u, hu⟩ : ∃ x, la.getD j 0 - la.getD i 0 = x := ⟨_, rfl⟩
  obtain ⟨v, hv⟩ : ∃ x, (la.getD j 0 - be.getD j 0) - (la.getD i 0 - be.getD i 0) = x := ⟨_, rfl⟩
  rw [hu] at H2 ⊢
  rw [hv] at H3 ⊢
  obtain ⟨R, hr⟩ : ∃ x, (if u = 0 then v else u) = x := ⟨_, rfl⟩
  rw [hr]
  have HR := qh hr
  clear h hu hv hr
  go_enter Tryz.func108, Tryz.ntmps108
  go_wp2
  go_loopw [11] (fun y wr => ∃ (k n : Nat), y = .int .i64 (k : Int) ∧ k ≤ 2 ∧ wr = W.drewN n ∧ (1 ≤ k → u = 0) ∧ (2 ≤ k → v = 0)) (fun y _ => 2 - (intOf y).toNat)
  case atStart => exact ⟨0, 0, rfl, by omega, rfl, fun h => by omega, fun h => by omega⟩
  case round =>
    obtain ⟨k, n, rfl, hk, rfl, e1, e2⟩ := hrel
    by_cases h0 : k = 0
    · subst h0
      clear e1 e2
      by_cases hv : u = 0
      · subst hv
        go_wp2_with (go_at_call 49; (with_reducible refine (H2.out _).mono ?_); rintro e1 w1 ⟨rfl, m, rfl⟩)
        go_roundw
        case rel => exact ⟨1, m, by simp, by omega, rfl, by simp, fun h => by omega⟩
        case measure => simp [intOf]; try omega
      · have q1 : (u != 0) = true := by rw [bne_iff_ne]; exact hv
        obtain rfl : u = R := by have := HR.out; rwa [if_neg hv] at this
        go_wp2_with (go_at_call 49; (with_reducible refine (H2.out _).mono ?_); rintro e1 w1 ⟨rfl, m, rfl⟩)
        go_ret
        exact ⟨rfl, _, rfl⟩
    · by_cases h2 : k = 1
      · subst h2
        have hu := e1 (Nat.le_refl _)
        subst hu
        clear e1 e2
        by_cases hv : v = 0
        · subst hv
          go_wp2_with (go_at_call 50; (with_reducible refine (H3.out _).mono ?_); rintro e1 w1 ⟨rfl, m, rfl⟩)
          go_roundw
          case rel => exact ⟨2, m, by simp, by omega, rfl, by simp, by simp⟩
          case measure => simp [intOf]; try omega
        · have q1 : (v != 0) = true := by rw [bne_iff_ne]; exact hv
          obtain rfl : v = R := by have := HR.out; rwa [if_pos rfl] at this
          go_wp2_with (go_at_call 50; (with_reducible refine (H3.out _).mono ?_); rintro e1 w1 ⟨rfl, m, rfl⟩)
          go_ret
          exact ⟨rfl, _, rfl⟩
      · obtain rfl : k = 2 := by omega
        have hu := e1 (by omega)
        have hv := e2 (Nat.le_refl _)
        subst hu hv
        obtain rfl : 0 = R := by have := HR.out; rwa [if_pos rfl] at this
        clear e1 e2
        go_wp2
        go_ret
        exact ⟨rfl, _, rfl⟩
/-- The two orders read the same whatever the row holds that is sorted. -/
structure RkS (W : World) (g p5 p6 p9 q bl bb : Nat) : Prop where
  n5 : p5 ≠ g ∧ p5 < W.heap.size
  n6 : p6 ≠ g ∧ p6 < W.heap.size
  n9 : p9 ≠ g ∧ p9 < W.heap.size
  nq : q ≠ g ∧ q < W.heap.size
  nl : bl ≠ g ∧ bl < W.heap.size
  nb : bb ≠ g ∧ bb < W.heap.size
  sg : g < W.heap.size
theorem cmpK {g m : Nat} (h : RkW W p5 p6 p9 q bl ol cl bb ob cb (m + 1) la be) (hs : RkS W g p5 p6 p9 q bl bb) (T : TypeId) (n : Nat) :
    CmpReads Tryz.prog 108 #[.pointer (some ⟨W.heap.size, 0, none⟩)] (encF (n := m + 1)) (cfK la be) g 0 n (W.alloc (.cells #[.slice (some ⟨q, 0, none⟩) 2 2] T)) := fun k os dk _ x y => by
  have e : ∀ (B z : Nat), B ≠ g → B < W.heap.size → (sortWorld encF (W.alloc (.cells #[.slice (some ⟨q, 0, none⟩) 2 2] T)) g 0 k dk os).cell? ⟨B, z, none⟩ = W.cell? ⟨B, z, none⟩ := fun B z h1 h2 => by
    rw [cell_sortWorld _ _ _ _ _ _ _ _ h1 (by simp; omega)]
    exact World.cell?_alloc_lt _ _ _ h2
  have hg := hs.sg
  refine by2_num ?_ (h.on fun B z hB => ?_) x.isLt y.isLt
  · rw [cell_sortWorld _ _ _ _ _ _ _ _ (by dsimp only; omega) (by simp)]
    simp
  · rcases hB with rfl | rfl | rfl | rfl | rfl | rfl
    · exact e _ _ hs.n5.1 hs.n5.2
    · exact e _ _ hs.n6.1 hs.n6.2
    · exact e _ _ hs.n9.1 hs.n9.2
    · exact e _ _ hs.nq.1 hs.nq.2
    · exact e _ _ hs.nl.1 hs.nl.2
    · exact e _ _ hs.nb.1 hs.nb.2
end

section
variable {w : World} {A : Option Addr} {n c m : Nat} {rs : List (List Int)}
theorem ranking_bad {k : Int} (h : Rv w A n rs) (hn : n ≤ 100000) (hl : ∀ z ∈ rs, z.length ≤ 100000) (hk : readE rs = k) (h0 : k ≠ 0) :
    Calls Tryz.prog 10 #[.slice A n c] w fun e w' => e = .returned (.tuple #[.slice none 0 0, .int .i64 k]) ∧ Below w.heap.size w w' := by
  have HC := qh (fun (W : World) (hW : Below w.heap.size w W) => readings_ok (c := c) (h.below hW) hn hl hk)
  have q1 : (k != 0) = true := by rw [bne_iff_ne]; exact h0
  clear h hn hl hk
  go_enter Tryz.func10, Tryz.ntmps10
  go_wp2_with (go_at_call 12; (with_reducible refine mo0 (HC.out _ bi) fun w1 hb1 hc1 hf1 _ => ?_))
  exact bodyPost_ret (v := .tuple #[.slice none 0 0, .int .i64 k]) (by simp [results, Tryz.results10, go_sem]) rfl ⟨rfl, bi⟩
abbrev lastR (rs : List (List Int)) : List Int := rs.getD (rs.length - 1) []
abbrev beforeR (rs : List (List Int)) : List Int := rs.getD (rs.length - 2) []
set_option maxHeartbeats 16000000 in
theorem ranking_ok (h : Rv w A n rs) (hg : Good m rs) (h0 : 0 < n) (hk : readE rs = 0) (h20 : m < 20) :
    Calls Tryz.prog 10 #[.slice A n c] w fun e w' => ∃ v, e = .returned (.tuple #[v, .int .i64 0]) ∧ w'.ownsRow w.heap.size 3 1 v m ((stabG (m := m - 1) (cfK (lastR rs) (beforeR rs)) (List.range m)).map encN) ∧ Below w.heap.size w w' := by
  have hn : n ≤ 1000 := by rw [← h.len]; exact hg.few
  have HC := qh (fun (W : World) (hW : Below w.heap.size w W) => readings_ok (c := c) (h.below hW) (by omega) (fun z hz => by rw [hg.len z hz]; have := hg.m64; omega) hk)
  have hm0 := hg.m0
  obtain ⟨b, o, rfl, hbl, hat⟩ := h.at_ h0
  obtain ⟨B, l, cl, k0, kv⟩ := hat (n - 1) (by omega)
  have hlm : l = m := by rw [← hg.len _ (getD_in (d := ([] : List Int)) (show n - 1 < rs.length by rw [h.len]; omega))]; exact kv.len.symm
  subst hlm
  obtain ⟨bl, ol, rfl, hbl1, hat1⟩ := kv.at_ hm0
  obtain ⟨B2, l2, cb, k1, kv2⟩ := hat (n - 2) (by omega)
  have hlm2 : l2 = l := by rw [← hg.len _ (getD_in (d := ([] : List Int)) (show n - 2 < rs.length by rw [h.len]; omega))]; exact kv2.len.symm
  subst hlm2
  obtain ⟨bb, ob, rfl, hbl2, hat2⟩ := kv2.at_ hm0
  obtain ⟨la, hla⟩ : ∃ x, lastR rs = x := ⟨_, rfl⟩
  obtain ⟨be, hbe⟩ : ∃ x, beforeR rs = x := ⟨_, rfl⟩
  have hsm : ∀ j, j < l2 → (-600 ≤ la.getD j 0 ∧ la.getD j 0 ≤ 1000) ∧ -600 ≤ be.getD j 0 ∧ be.getD j 0 ≤ 1000 := fun j hj => by
    rw [← hla, ← hbe]
    have a := hg.at (t := rs.length - 1) (k := j) (by rw [h.len]; omega) hj
    have b := hg.at (t := rs.length - 2) (k := j) (by rw [h.len]; omega) hj
    exact ⟨a, b⟩
  rw [← h.len] at hat1 hat2
  rw [show rs.getD (rs.length - 1) [] = la from hla] at hat1
  rw [show rs.getD (rs.length - 2) [] = be from hbe] at hat2
  rw [hla, hbe]
  have HAT := qh (And.intro hat1 (And.intro hat2 hsm))
  have HK := qh (And.intro h20 (And.intro hbl1 hbl2))
  obtain ⟨t1, ht1⟩ : ∃ t, n - 1 = t := ⟨_, rfl⟩
  obtain ⟨t2, ht2⟩ : ∃ t, n - 2 = t := ⟨_, rfl⟩
  rw [ht1] at k0
  rw [ht2] at k1
  have m1 : IntKind.i64.wrap ((n : Int) - 1) = (t1 : Int) := by
    rw [smw (by omega)]; omega
  obtain ⟨z, hz⟩ : ∃ z, IntKind.i64.wrap ((n : Int) - 2) = z := ⟨_, rfl⟩
  have hz2 : z = (n : Int) - 2 := by rw [← hz]; exact smw (by omega)
  have hzt : max 0 z = (t2 : Int) := by omega
  have ht1n : t1 < n := by omega
  have ht2n : t2 < n := by omega
  clear ht1 ht2 hz2
  have hh0 := h0
  clear h hat kv kv2 hg hk hat1 hat2 hla hbe hsm
  go_enter Tryz.func10, Tryz.ntmps10
  go_upto_region 4 with (go_at_call 12; (with_reducible refine mo0 (HC.out _ bi) fun w1 hb1 hc1 hf1 _ => ?_))
  have zb := Nat.lt_of_lt_of_le hbl hb1.size
  go_upto_region 6 with (fail)
  have B5 := (Blk.new w1 31 #[.slice (some ⟨bl, ol, none⟩) l2 cl]).alloc (.cells #[.slice (some ⟨bb, ob, none⟩) l2 cb] 31)
  have B6 := Blk.new (w1.alloc (.cells #[.slice (some ⟨bl, ol, none⟩) l2 cl] 31)) 31 #[.slice (some ⟨bb, ob, none⟩) l2 cb]
  rw [World.size_alloc] at B6
  have bV : Below w.heap.size w ((w1.alloc (.cells #[.slice (some ⟨bl, ol, none⟩) l2 cl] 31)).alloc (.cells #[.slice (some ⟨bb, ob, none⟩) l2 cb] 31)) := bi
  obtain ⟨V, hV⟩ : ∃ V, ((w1.alloc (.cells #[.slice (some ⟨bl, ol, none⟩) l2 cl] 31)).alloc (.cells #[.slice (some ⟨bb, ob, none⟩) l2 cb] 31)) = V := ⟨_, rfl⟩
  have zV : V.heap.size = w1.heap.size + 1 + 1 := by rw [← hV]; simp
  rw [hV] at B5 B6 bV ⊢
  obtain ⟨p5, hp5⟩ : ∃ p, w1.heap.size = p := ⟨_, rfl⟩
  have hp5w : w.heap.size ≤ p5 := by rw [← hp5]; exact hb1.size
  rw [hp5] at B5 B6 zV ⊢
  clear hV hp5 hc1 hf1 hb1 HC k0 k1 zb m1 hzt ht1n ht2n hz
  have HB := qh (And.intro B5 B6)
  clear B6
  have v5 := B5.cell 0
  have z5 := B5.lt
  simp only [List.getElem?_toArray, List.getElem?_cons_zero] at v5
  have hl20 := h20
  clear B5
  go_wp2
  clear v5 z5
  go_loopw [7, 30] (fun v u wr => ∃ (i co : Nat) (Ao : Option Addr), u = .int .i64 (i : Int) ∧ v = .slice Ao i co ∧ i ≤ l2 ∧ RowKit.Below V.heap.size V wr ∧ OwnZ wr V.heap.size (.slice Ao i co) i ((List.range i).map Int.ofNat)) (fun _ u _ => l2 - (intOf u).toNat)
  case atStart => exact ⟨0, 0, none, rfl, rfl, Nat.zero_le _, bi, World.ownsRow_nil _ _ _ _⟩
  case round =>
    obtain ⟨i, co, Ao, rfl, rfl, hil, hb, how⟩ := hrel
    have _ := bm hb
    have HOW := qh how
    have hz := hb.size
    clear how
    by_cases hi : i < l2
    · have p0 : decide (i < l2) = true := by simpa using hi
      have HI := qh hi
      have hr : (List.range (i + 1)).map Int.ofNat = (List.range i).map Int.ofNat ++ [(i : Int)] := by rw [List.range_succ, List.map_append]; rfl
      have HR := qh hr
      clear hr
      go_wp2_with (at_builtin; refine wpList_append_z (z := (i : Int)) (n := i) (base := V.heap.size) rfl _ _ rfl rfl rfl rfl (HOW.out.alloc _) (by omega) (by simp; omega) (by simp) ?_; intro A5 c5 w5 ho5 hg5 hl5)
      have hb5 : RowKit.Below V.heap.size V w5 := Below.trans (below_alloc hb _) (grownB hg5 (by simp; omega) (fun j hj => HOW.out.ge j hj))
      exact ⟨⟨i + 1, c5, A5, by simp, rfl, HI.out, hb5, by rw [HR.out]; exact ho5⟩, by have := HI.out; simp [intOf]; omega⟩
    · have p0 : decide (i < l2) = false := by simpa using hi
      obtain rfl : i = l2 := by omega
      obtain ⟨g, cg, e⟩ := own_pos HOW.out hm0
      injection e with e1 e2 e3
      subst e1 e3
      have hgl := HOW.out.lt g rfl
      have hrow : wr.ownsRow V.heap.size 3 1 (.slice (some ⟨g, 0, none⟩) i co) i ((List.range i).map encN) := by
        have := HOW.out
        unfold OwnZ at this
        rw [List.map_map] at this
        exact this
      have B5 := HB.out.1.below hb
      have B6 := HB.out.2.below hb
      have zb1 : bl < V.heap.size := Nat.lt_of_lt_of_le HK.out.2.1 bV.size
      have zb2 : bb < V.heap.size := Nat.lt_of_lt_of_le HK.out.2.2 bV.size
      have HU : Hid (∀ U : World, U = (wr.alloc (.cells #[.func (.func 47) #[] #[.pointer (some ⟨p5, 0, none⟩), .pointer (some ⟨p5 + 1, 0, none⟩)]] 98)).alloc (.cells #[.func (.func 49) #[] #[.pointer (some ⟨p5, 0, none⟩)], .func (.func 50) #[] #[.pointer (some ⟨wr.heap.size, 0, none⟩)]] 100) →
          RkW U p5 (p5 + 1) wr.heap.size (wr.heap.size + 1) bl ol cl bb ob cb (i - 1 + 1) la be ∧ RkS U g p5 (p5 + 1) wr.heap.size (wr.heap.size + 1) bl bb ∧ U.ownsRow V.heap.size 3 1 (.slice (some ⟨g, 0, none⟩) i co) i ((List.range i).map encN) ∧ RowKit.Below V.heap.size V U) := qh (by
        rintro U rfl
        have hbu : RowKit.Below wr.heap.size wr ((wr.alloc (.cells #[.func (.func 47) #[] #[.pointer (some ⟨p5, 0, none⟩), .pointer (some ⟨p5 + 1, 0, none⟩)]] 98)).alloc (.cells #[.func (.func 49) #[] #[.pointer (some ⟨p5, 0, none⟩)], .func (.func 50) #[] #[.pointer (some ⟨wr.heap.size, 0, none⟩)]] 100)) := bA (bA bR)
        have hbV := below_step hb hbu
        have hil : i - 1 + 1 = i := by omega
        refine ⟨⟨?_, ?_, by simp, by simp, by simp, fun j hj => ?_, fun j hj => ?_, fun j hj => HAT.out.2.2 j (by omega)⟩, ⟨?_, ?_, ?_, ?_, ?_, ?_, ?_⟩, (hrow.alloc _).alloc _, hbV⟩
        · have := (B5.below hbu).cell 0
          rw [hil]; simpa using this
        · have := (B6.below hbu).cell 0
          rw [hil]; simpa using this
        · exact cell_on hbV (cell_on bV (HAT.out.1 j (by omega)))
        · exact cell_on hbV (cell_on bV (HAT.out.2.1 j (by omega)))
        all_goals simp
        all_goals omega)
      clear hi hil hrow B5 B6
      go_upto_region 13 with (fail)
      go_wp2_with (go_at_call 48; (with_reducible refine (by_own (base := V.heap.size) (zs := List.range i) (m := i - 1) (cf := cfK la be) (cfK_swo la be (i - 1 + 1)) (fun T n => cmpK (HU.out _ rfl).1 (HU.out _ rfl).2.1 T n) (HU.out _ rfl).2.2.1 (fun x hx => by have := List.mem_range.1 hx; omega) hl20).mono ?_); rintro e6 w6 ⟨rfl, hr6, hg6⟩)
      have hb6 : RowKit.Below V.heap.size V w6 := Below.trans (HU.out _ rfl).2.2.2 (grownB hg6 (HU.out _ rfl).2.2.2.size (fun k hk => by cases hk; exact hgl.1))
      exact bodyPost_ret (v := .tuple #[.slice (some ⟨g, 0, none⟩) i co, .int .i64 0]) (by simp [results, Tryz.results10, go_sem]) rfl ⟨_, rfl, own_le hr6 bV.size, below_step bV hb6⟩
end

section
variable {w : World} {A : Option Addr} {n c m : Nat} {rs : List (List Int)}
theorem rrise_ok {k : Nat} (h : Rv w A n rs) (hg : Good m rs) (h0 : 0 < n) (hk : k < m) :
    Calls Tryz.prog 57 #[.slice A n c, .int .i64 (k : Int)] w fun e w' => e = .returned (.int .i64 ((lastR rs).getD k 0 - (beforeR rs).getD k 0)) ∧ ∃ q, w' = w.drewN q := by
  have hln := h.len
  by_cases h2 : n = 1
  · have e : lastR rs = beforeR rs := by unfold lastR beforeR; rw [hln, h2]
    rw [e, Int.sub_self]
    subst h2
    clear e h hg h0 hk
    go_enter Tryz.func57, Tryz.ntmps57
    go_wp2
    go_ret
    exact ⟨rfl, 0, rfl⟩
  · have hn : n ≤ 1000 := by rw [← h.len]; exact hg.few
    obtain ⟨b, o, rfl, hbl, hat⟩ := h.at_ h0
    obtain ⟨B, l, cl, k0, kv⟩ := hat (n - 1) (by omega)
    have hlm : l = m := by rw [← hg.len _ (getD_in (d := ([] : List Int)) (show n - 1 < rs.length by rw [h.len]; omega))]; exact kv.len.symm
    subst hlm
    obtain ⟨bl, ol, rfl, hbl1, hat1⟩ := kv.at_ (by omega)
    obtain ⟨B2, l2, cb, k1, kv2⟩ := hat (n - 2) (by omega)
    have hlm2 : l2 = l := by rw [← hg.len _ (getD_in (d := ([] : List Int)) (show n - 2 < rs.length by rw [h.len]; omega))]; exact kv2.len.symm
    subst hlm2
    obtain ⟨bb, ob, rfl, hbl2, hat2⟩ := kv2.at_ (by omega)
    have k2 := hat1 k hk
    have k3 := hat2 k hk
    have s1 := hg.at (t := rs.length - 1) (k := k) (by rw [h.len]; omega) hk
    have s2 := hg.at (t := rs.length - 2) (k := k) (by rw [h.len]; omega) hk
    unfold lastR beforeR
    unfold at2 at s1 s2
    rw [hln] at s1 s2 ⊢
    obtain ⟨x, hx⟩ : ∃ x, (rs.getD (n - 1) []).getD k 0 = x := ⟨_, rfl⟩
    obtain ⟨y, hy⟩ : ∃ x, (rs.getD (n - 2) []).getD k 0 = x := ⟨_, rfl⟩
    rw [hx] at k2 s1 ⊢
    rw [hy] at k3 s2 ⊢
    obtain ⟨t1, ht1⟩ : ∃ t, n - 1 = t := ⟨_, rfl⟩
    obtain ⟨t2, ht2⟩ : ∃ t, n - 2 = t := ⟨_, rfl⟩
    rw [ht1] at k0
    rw [ht2] at k1
    have m1 : IntKind.i64.wrap ((n : Int) - 1) = (t1 : Int) := by
      rw [smw (by omega)]; omega
    have m2 : IntKind.i64.wrap ((t1 : Int) - 1) = (t2 : Int) := by
      rw [smw (by omega)]; omega
    have m3 := smw (x := x - y) (by omega)
    have q1 : ((t1 : Int) == 0) = false := by rw [beq_eq_false_iff_ne]; omega
    have q2 : (t1 == 0) = false := by rw [beq_eq_false_iff_ne]; omega
    have ht1n : t1 < n := by omega
    have ht2n : t2 < n := by omega
    clear h hg h0 hat kv kv2 hat1 hat2 s1 s2 hx hy ht1 ht2 h2 hln
    go_enter Tryz.func57, Tryz.ntmps57
    go_upto_region 4 with (fail)
    go_quiet (fail)
    go_wp2
    go_ret
    exact ⟨rfl, _, rfl⟩
theorem rrise_q {k : Nat} (h : Rv w A n rs) (hg : Good m rs) (h0 : 0 < n) (hk : k < m) (j : Nat) :
    Calls Tryz.prog 57 #[.slice A n c, .int .i64 (k : Int)] (w.drewN j) fun e w' => e = .returned (.int .i64 ((lastR rs).getD k 0 - (beforeR rs).getD k 0)) ∧ ∃ q, w' = w.drewN q :=
  (rrise_ok (h.below (below_drewN (Below.refl _ _) j)) hg h0 hk).mono fun e w' ⟨a, r, b⟩ => ⟨a, j + r, by rw [b, World.drewN_drewN]⟩
end
/-- x stays ahead of k. -/
def keepB (la be : List Int) (k x : Nat) : Bool := decide (la.getD k 0 < la.getD x 0) || (decide (la.getD x 0 = la.getD k 0) && decide (la.getD k 0 - be.getD k 0 ≤ la.getD x 0 - be.getD x 0))
def posK (la be : List Int) (k : Nat) (l : List Nat) : Nat := (l.takeWhile (keepB la be k)).length
def insK (la be : List Int) (k : Nat) (l : List Nat) : List Nat := l.take (posK la be k l) ++ [k] ++ l.drop (posK la be k l)
def rkL (la be : List Int) : Nat → List Nat
  | 0 => []
  | k + 1 => insK la be k (rkL la be k)
theorem posK_le (la be : List Int) (k : Nat) : ∀ l, posK la be k l ≤ l.length
  | [] => Nat.le_refl _
  | x :: r => by
    have := posK_le la be k r
    unfold posK at this ⊢
    rw [List.takeWhile_cons]
    split <;> simp <;> omega
theorem rkL_len (la be : List Int) : ∀ k, (rkL la be k).length = k
  | 0 => rfl
  | k + 1 => by
    have h := rkL_len la be k
    have := posK_le la be k (rkL la be k)
    rw [rkL, insK]
    simp only [List.length_append, List.length_take, List.length_drop, List.length_cons, List.length_nil]
    omega
theorem rkL_lt (la be : List Int) : ∀ k, ∀ x ∈ rkL la be k, x < k
  | 0, x, h => by cases h
  | k + 1, x, h => by
    rw [rkL, insK, List.mem_append, List.mem_append] at h
    rcases h with (h | h) | h
    · have := rkL_lt la be k x (List.mem_of_mem_take h); omega
    · rw [List.mem_singleton] at h; omega
    · have := rkL_lt la be k x (List.mem_of_mem_drop h); omega
theorem posK_step {la be : List Int} {k a : Nat} {l : List Nat} (h : a < l.length) : posK la be k (l.drop a) = if keepB la be k (l.getD a 0) then posK la be k (l.drop (a + 1)) + 1 else 0 := by
  rw [List.drop_eq_getElem_cons h, List.getD_eq_getElem?_getD, List.getElem?_eq_getElem h]
  unfold posK
  rw [List.takeWhile_cons]
  show _ = if keepB la be k l[a] = true then _ else _
  split <;> simp
section
variable {w : World} {A B : Option Addr} {n m c d e base : Nat} {v : Value} {zs ys : List Int}
theorem OwnZ.form (h : OwnZ w base v n zs) : ∃ A c, v = .slice A n c := by
  rcases h.2 with ⟨rfl, h1⟩ | ⟨g, cap, cur, rfl, _⟩
  · exact ⟨none, 0, by rw [h1]⟩
  · exact ⟨_, _, rfl⟩
theorem OwnZ.below {w' : World} (h : OwnZ w base v n zs) (hb : Below w.heap.size w w') : OwnZ w' base v n zs :=
  World.ownsRow.kept h (⟨hb.os, hb.tape, hb.output, hb.size, fun k hk _ => hb.block k hk⟩ : w.grownBy w' none) (by cases hv : v.ownBlock <;> simp)
/-- A row of integers grows by those of another list. -/
theorem app_iv (h : OwnZ w base v n zs) (hn : n ≤ 100000) (hm : m ≤ 100000) (hb : base ≤ w.heap.size) (hy : Iv w B m ys) (hB : B = none → c = 0) (hp : ∀ a, B = some a → ∃ b o, a = ⟨b, o, none⟩) :
    ∃ A' c' w', (Builtin.append_ #[31, 31] 31 #[v, .slice B m c]).run Tryz.prog w = .ok (.slice A' (n + m) c') w' ∧ OwnZ w' base (.slice A' (n + m) c') (n + m) (zs ++ ys) ∧ w.grownBy w' v.ownBlock ∧ ((Value.slice A' (n + m) c').ownBlock = v.ownBlock ∨ (Value.slice A' (n + m) c').ownBlock = some w.heap.size) := by
  obtain ⟨i, hi, hz0, hz1, hz2⟩ := info_parts z_row
  have hl := hy.len
  cases B with
  | none =>
    have hm0 : m = 0 := by
      rcases Nat.eq_zero_or_pos m with e | e
      · exact e
      · obtain ⟨b, o, e, _⟩ := hy.at_ e; cases e
    subst hm0
    obtain rfl := hB rfl
    obtain rfl := List.length_eq_zero_iff.1 hl
    obtain ⟨A', c', rfl⟩ := h.form
    exact ⟨A', c', w, run_append_owned_none (P := Tryz.prog) (w := w) base 31 31 3 i 1 Tryz.underlying31 hi _ n _ h, by rw [List.append_nil]; exact h, ⟨rfl, rfl, rfl, Nat.le_refl _, fun _ _ _ => rfl⟩, .inl rfl⟩
  | some a =>
    obtain ⟨b, o, rfl⟩ := hp a rfl
    obtain ⟨v', w', hr, k1, k2, _, k3⟩ := run_append_own_at (P := Tryz.prog) w base 31 31 3 i _ 1 8 Tryz.underlying31 hi hz0 hz1 hz2 rfl (by decide) v n (zs.map (Value.int .i64)) h ⟨b, o, none⟩ m c (ys.map (Value.int .i64)) (by simp [hl])
      (by
        intro j u hu
        obtain ⟨hj, rfl⟩ := zs_at hu
        have e : (⟨b, o, none⟩ : Addr).add j = ⟨b, o + j, none⟩ := by unfold Addr.add; split <;> simp_all
        rw [e]
        obtain ⟨b', o', e', _, hc⟩ := hy.at_ (by omega)
        cases e'
        exact hc j (by omega))
      (by intro u hu; simp at hu; obtain ⟨z, _, rfl⟩ := hu; rfl)
      (by simp only [maxLen]; omega) (by omega) hb
    have k4 : OwnZ w' base v' (n + m) (zs ++ ys) := by unfold OwnZ; rw [List.map_append]; exact k1
    obtain ⟨A', c', rfl⟩ := k4.form
    exact ⟨A', c', w', hr, k4, k2, k3⟩
theorem wpList_append_iv {ops : Array Oper} {rest : List Oper} {o : Oper} {a : Act} {Q : Exit → Act → World → Prop} {N : Nat} (hg : o.guard = none) (s y : Operand)
    (ho : o.op = .call { callee := .builtin .append, args := #[s, y], argTypes := #[31, 31] }) (ht : o.type = 31) (hs : a.eval s = v) (hy : a.eval y = .slice B m c)
    (h : OwnZ w base v n zs) (hn : n ≤ 100000) (hm : m ≤ 100000) (hb : base ≤ w.heap.size) (hv : Iv w B m ys) (hB : B = none → c = 0) (hp : ∀ a, B = some a → ∃ b o, a = ⟨b, o, none⟩) (hN : n + m = N)
    (hK : ∀ A' c' w', OwnZ w' base (.slice A' N c') N (zs ++ ys) → w.grownBy w' v.ownBlock → ((Value.slice A' N c').ownBlock = v.ownBlock ∨ (Value.slice A' N c').ownBlock = some w.heap.size) → wpList Tryz.prog ops Q rest (a.put o.dst (.slice A' N c')) w') : wpList Tryz.prog ops Q (o :: rest) a w := by
  subst hN
  obtain ⟨A', c', w', hr, k1, k2, k3⟩ := app_iv h hn hm hb hv hB hp
  refine wpList_plain hg fun K' hK' => ?_
  exact gen_z s y ho hs hy (by rw [ht]; exact hr) (hK' _ _ (hK A' c' w' k1 k2 k3))
theorem Iv.part {w : World} {b o n a : Nat} {zs : List Int} (h : Iv w (some ⟨b, o, none⟩) n zs) (ha : a ≤ n) : Iv w (some ⟨b, o, none⟩) a (zs.take a) :=
  ⟨by rw [List.length_take, h.len]; omega, fun h0 => by
    obtain ⟨b', o', e, hb, hc⟩ := h.at_ (by omega)
    refine ⟨b', o', e, hb, fun j hj => ?_⟩
    rw [List.getD_eq_getElem?_getD, List.getElem?_take, if_pos hj, ← List.getD_eq_getElem?_getD]
    exact hc j (by omega)⟩
theorem Iv.rest {w : World} {b o n a : Nat} {zs : List Int} (h : Iv w (some ⟨b, o, none⟩) n zs) (ha : a ≤ n) : Iv w (some ⟨b, o + a, none⟩) (n - a) (zs.drop a) :=
  ⟨by rw [List.length_drop, h.len], fun h0 => by
    obtain ⟨b', o', e, hb, hc⟩ := h.at_ (by omega)
    cases e
    refine ⟨b, o + a, rfl, hb, fun j hj => ?_⟩
    rw [List.getD_eq_getElem?_getD, List.getElem?_drop, ← List.getD_eq_getElem?_getD, Nat.add_assoc]
    exact hc (a + j) (by omega)⟩
theorem Iv.zero {w : World} {B : Option Addr} : Iv w B 0 [] := ⟨rfl, fun h => by omega⟩
theorem ownZ_lit (w : World) : OwnZ (w.alloc (.cells #[] 3)) w.heap.size (.slice (some ⟨w.heap.size, 0, none⟩) 0 0) 0 [] := World.ownsRow_made w #[] 0 (Nat.le_refl _) (Nat.zero_le _) rfl
end

section
variable {w : World} {A : Option Addr} {n c m : Nat} {rs : List (List Int)}
set_option maxHeartbeats 16000000 in
theorem rranking_ok (h : Rv w A n rs) (hg : Good m rs) (h0 : 0 < n) :
    Calls Tryz.prog 17 #[.slice A n c] w fun e w' => ∃ v, e = .returned v ∧ OwnZ w' w.heap.size v m ((rkL (lastR rs) (beforeR rs) m).map Int.ofNat) ∧ Below w.heap.size w w' := by
  have hn : n ≤ 1000 := by rw [← h.len]; exact hg.few
  have H := qh h
  have HG := qh hg
  have hm0 := hg.m0
  have hm64 := hg.m64
  obtain ⟨b, o, rfl, hbl, hat⟩ := h.at_ h0
  obtain ⟨B, l, cl, k0, kv⟩ := hat (n - 1) (by omega)
  have hlm : l = m := by rw [← hg.len _ (getD_in (d := ([] : List Int)) (show n - 1 < rs.length by rw [h.len]; omega))]; exact kv.len.symm
  subst hlm
  obtain ⟨bl, ol, rfl, hbl1, hat1⟩ := kv.at_ hm0
  obtain ⟨la, hla⟩ : ∃ x, lastR rs = x := ⟨_, rfl⟩
  obtain ⟨be, hbe⟩ : ∃ x, beforeR rs = x := ⟨_, rfl⟩
  rw [← h.len] at hat1
  rw [show rs.getD (rs.length - 1) [] = la from hla] at hat1
  have HRI : Hid (∀ (W : World), Below w.heap.size w W → ∀ k, k < l → ∀ j, Calls Tryz.prog 57 #[.slice (some ⟨b, o, none⟩) n c, .int .i64 (k : Int)] (W.drewN j) fun e w' => e = .returned (.int .i64 (la.getD k 0 - be.getD k 0)) ∧ ∃ q, w' = W.drewN q) := qh (fun W hW k hk j => by
    have := rrise_q (c := c) (H.out.below hW) HG.out h0 hk j
    rw [hla, hbe] at this
    exact this)
  rw [hla, hbe]
  have HAT := qh hat1
  have HH := qh (And.intro hbl1 h0)
  obtain ⟨t1, ht1⟩ : ∃ t, n - 1 = t := ⟨_, rfl⟩
  rw [ht1] at k0
  have m1 : IntKind.i64.wrap ((n : Int) - 1) = (t1 : Int) := by
    rw [smw (by omega)]; omega
  have ht1n : t1 < n := by omega
  clear h hat kv hg hat1 hla hbe h0 ht1 H HG
  go_enter Tryz.func17, Tryz.ntmps17
  go_upto_region 4 with (fail)
  go_loopw [4, 5] (fun v u wr => ∃ (k co : Nat) (Ao : Option Addr), u = .int .i64 (k : Int) ∧ v = .slice Ao k co ∧ k ≤ l ∧ (k = 0 → Ao = none ∧ co = 0) ∧ RowKit.Below w.heap.size w wr ∧ OwnZ wr w.heap.size (.slice Ao k co) k ((rkL la be k).map Int.ofNat)) (fun _ u _ => l - (intOf u).toNat)
  case atStart => exact ⟨0, 0, none, rfl, rfl, Nat.zero_le _, fun _ => ⟨rfl, rfl⟩, bi, World.ownsRow_nil _ _ _ _⟩
  case round =>
    obtain ⟨k, co, Ao, rfl, rfl, hkl, hz0, hb, how⟩ := hrel
    have _ := bm hb
    have HZ0 := qh hz0
    clear hz0
    rename World => wo
    have HOW := qh how
    clear how
    by_cases hk : k < l
    · have p0 : decide (k < l) = true := by simpa using hk
      have HK := qh hk
      obtain ⟨P, hP⟩ : ∃ P, posK la be k (rkL la be k) = P := ⟨_, rfl⟩
      have HP := qh hP
      have hPk : P ≤ k := by rw [← hP]; have := posK_le la be k (rkL la be k); rwa [rkL_len] at this
      clear hP
      go_wp2
      go_loopw [6] (fun u wr => ∃ a : Nat, u = .int .i64 (a : Int) ∧ a ≤ k ∧ RowKit.Below wo.heap.size wo wr ∧ posK la be k ((rkL la be k).drop a) + a = P) (fun u _ => k - (intOf u).toNat)
      case atStart => exact ⟨0, rfl, Nat.zero_le _, bi, by simpa using HP.out⟩
      case round =>
        obtain ⟨a, rfl, hak, hbo, hpa⟩ := hrel
        have _ := bm hbo
        have HPA := qh hpa
        have hbw := below_step hb hbo
        clear hpa
        obtain ⟨f, hf⟩ : ∃ f, (decide (a < k) && keepB la be k ((rkL la be k).getD a 0)) = f := ⟨_, rfl⟩
        have HF := qh hf
        clear hf
        go_upto_region 7 with (fail)
        go_cut [63] (fun v wx => v = .bool f ∧ ∃ q, wx = wr.drewN q)
        case first =>
          have hf := HF.out
          have hkk := HK.out
          by_cases ha : a < k
          · have p1 : decide (a < k) = true := by simpa using ha
            rw [p1, Bool.true_and] at hf
            have hiv := (OwnZ.below HOW.out hbo).iv (by rw [List.length_map, rkL_len])
            obtain ⟨g, og, rfl, hgl, hgc⟩ := hiv.at_ (by omega)
            have cx := hgc a ha
            have hxk : (rkL la be k).getD a 0 < k := by
              have := rkL_lt la be k _ (getD_in (d := 0) (show a < (rkL la be k).length by rw [rkL_len]; exact ha))
              exact this
            have hmx : ((rkL la be k).map Int.ofNat).getD a 0 = (((rkL la be k).getD a 0 : Nat) : Int) := by
              have hl : a < (rkL la be k).length := by rw [rkL_len]; exact ha
              simp [List.getD_eq_getElem?_getD, hl]
            rw [hmx] at cx
            obtain ⟨x, hx⟩ : ∃ x, (rkL la be k).getD a 0 = x := ⟨_, rfl⟩
            rw [hx] at cx hxk hf
            have cX := cell_on hbw (HAT.out x (by omega))
            have cK := cell_on hbw (HAT.out k hkk)
            have zg := World.block_lt_of_cell? wr _ cx
            have zl := World.block_lt_of_cell? wr _ cX
            dsimp only at zg zl
            have HX := qh (fun j => HRI.out wr hbw x (by omega) j)
            have HKK := qh (fun j => HRI.out wr hbw k hkk j)
            obtain ⟨X, hX⟩ : ∃ y, la.getD x 0 = y := ⟨_, rfl⟩
            obtain ⟨K, hK⟩ : ∃ y, la.getD k 0 = y := ⟨_, rfl⟩
            unfold keepB at hf
            rw [hX, hK] at hf
            rw [hX] at cX HX
            rw [hK] at cK HKK
            obtain ⟨rx, hrx⟩ : ∃ y, X - be.getD x 0 = y := ⟨_, rfl⟩
            obtain ⟨rk, hrk⟩ : ∃ y, K - be.getD k 0 = y := ⟨_, rfl⟩
            rw [hrx, hrk] at hf
            rw [hrx] at HX
            rw [hrk] at HKK
            have hxl : x < l := by omega
            clear hiv hgc hmx hx hX hK hrx hrk hgl HRI HAT HP HPA hPk HF
            by_cases q1 : K < X
            · have p2 : decide (K < X) = true := by simpa using q1
              obtain rfl : true = f := by rw [← hf, p2]; rfl
              clear q1 hf
              go_quiet (fail)
              go_wp2
              go_meet
              exact ⟨rfl, _, rfl⟩
            · have p2 : decide (K < X) = false := by simpa using q1
              rw [p2, Bool.false_or] at hf
              by_cases q2 : X = K
              · subst q2
                have p3 : decide (rk ≤ rx) = f := by simpa using hf
                clear q1 hf
                go_quiet (first | ((go_at_call 57; with_reducible exact HX.out _)) | ((go_at_call 57; with_reducible exact HKK.out _)))
                go_wp2
                go_meet
                exact ⟨rfl, _, rfl⟩
              · have p3 : (X == K) = false := by rw [beq_eq_false_iff_ne]; exact q2
                obtain rfl : false = f := by rw [← hf, decide_eq_false q2]; rfl
                clear q1 q2 hf
                go_quiet (fail)
                go_wp2
                go_meet
                exact ⟨rfl, _, rfl⟩
          · have p1 : decide (a < k) = false := by simpa using ha
            obtain rfl : false = f := by rw [← hf, p1]; rfl
            clear hf ha HRI HAT HP HPA HF
            go_quiet (fail)
            go_wp2
            go_meet
            exact ⟨rfl, _, rfl⟩
        case rest =>
          obtain ⟨rfl, q, rfl⟩ := hcut
          have hf := HF.out
          have hpa := HPA.out
          have hkk := HK.out
          have hbq : RowKit.Below wo.heap.size wo (wr.drewN q) := bN hbo
          cases f with
          | true =>
            rw [Bool.and_eq_true, decide_eq_true_iff] at hf
            obtain ⟨ha, hkeep⟩ := hf
            rw [posK_step (by rw [rkL_len]; exact ha), if_pos hkeep] at hpa
            have HR := qh (And.intro ha (show posK la be k ((rkL la be k).drop (a + 1)) + (a + 1) = P by omega))
            clear hpa hkeep HPA HF HP
            go_wp2
            exact ⟨⟨a + 1, by simp, HR.out.1, hbq, HR.out.2⟩, by have := HR.out.1; simp [intOf]; omega⟩
          | false =>
            have hPa : a = P := by
              by_cases ha : a < k
              · have hk0 : keepB la be k ((rkL la be k).getD a 0) = false := by
                  rw [decide_eq_true ha, Bool.true_and] at hf; exact hf
                rw [posK_step (by rw [rkL_len]; exact ha), hk0, if_neg (by decide)] at hpa
                omega
              · rw [List.drop_eq_nil_of_le (by rw [rkL_len]; omega)] at hpa
                have : posK la be k [] = 0 := rfl
                omega
            subst hPa
            clear hf hpa HPA HF hkk
            obtain ⟨W0, hW0⟩ : ∃ W, wr.drewN q = W := ⟨_, rfl⟩
            rw [hW0] at hbq ⊢
            have HOW0 := qh (OwnZ.below HOW.out hbq)
            have hsz := below_step hb hbq
            have HRI2 : Hid ((rkL la be (k + 1)).map Int.ofNat = ((rkL la be k).map Int.ofNat).take a ++ [(k : Int)] ++ ((rkL la be k).map Int.ofNat).drop a) := qh (by
              rw [rkL, insK, HP.out, List.map_append, List.map_append, List.map_take, List.map_drop]; rfl)
            clear hW0 hbo hbw HOW hbq
            by_cases hk0 : k = 0
            · obtain ⟨rfl, rfl⟩ := HZ0.out hk0
              subst hk0
              obtain rfl : a = 0 := by omega
              clear hPk hak hkl
              go_wp2_with (first
                | (at_builtin; refine wpList_append_iv (n := 0) (m := 0) (N := 0) (zs := []) (ys := []) (base := W0.heap.size) rfl _ _ rfl rfl rfl rfl (ownZ_lit W0) (by omega) (by omega) (by simp) Iv.zero (fun _ => rfl) (fun a h => by cases h) rfl ?_; intro A5 c5 w5 ho5 hg5 hl5; have hb5 : RowKit.Below W0.heap.size W0 w5 := Below.trans (below_alloc (Below.refl _ _) _) (grownB hg5 (by simp) (fun j hj => by cases hj; exact Nat.le_refl _)); clear hl5)
                | (at_builtin; refine wpList_append_z (z := (0 : Int)) (n := 0) (base := W0.heap.size) rfl _ _ rfl rfl rfl rfl (ho5.alloc _) (by omega) (by have := hb5.size; simp; omega) (by simp) ?_; intro A6 c6 w6 ho6 hg6 hl6; have hb6 : RowKit.Below W0.heap.size W0 w6 := Below.trans (below_alloc hb5 _) (grownB hg6 (by have := hb5.size; simp; omega) (fun j hj => OwnZ.ge ho5 j hj)); clear hl6)
                | (at_builtin; refine wpList_append_iv (n := 1) (m := 0) (N := 1) (ys := []) (base := W0.heap.size) rfl _ _ rfl rfl rfl rfl ho6 (by omega) (by omega) hb6.size Iv.zero (fun _ => rfl) (fun a h => by cases h) rfl ?_; intro A7 c7 w7 ho7 hg7 hl7; have hb7 : RowKit.Below W0.heap.size W0 w7 := Below.trans hb6 (grownB hg7 hb6.size (fun j hj => OwnZ.ge ho6 j hj)); clear hl7))
              go_roundw
              case rel => exact ⟨1, c7, A7, by simp, rfl, by omega, fun h => by omega, below_step hsz hb7, by rw [HRI2.out]; exact own_le ho7 hsz.size⟩
              case measure => simp [intOf]; omega
            · obtain ⟨g, cg, e⟩ := own_pos HOW0.out (by omega)
              injection e with e1 e2 e3
              subst e1 e3
              have HIV := qh (OwnZ.iv HOW0.out (by rw [List.length_map, rkL_len]))
              have hnc : k ≤ co := by
                rcases HOW0.out.2 with ⟨e, _⟩ | ⟨g, cap, cur, e, hb', hg', hnc, _⟩
                · cases e
                · cases e; exact hnc
              have hac : a ≤ co := by omega
              have hkk := HK.out
              have hab : ¬ (k = 0) := hk0
              clear HRI HAT HP
              by_cases hca : co = a
              · have HKA : Hid (k ≤ a) := qh (by omega)
                go_wp2_with (first
                  | (at_builtin; refine wpList_append_iv (n := 0) (m := a) (N := a) (zs := []) (ys := ((rkL la be k).map Int.ofNat).take a) (base := W0.heap.size) rfl _ _ rfl rfl rfl rfl (ownZ_lit W0) (by omega) (by omega) (by simp) ((HIV.out.below (below_alloc (Below.refl _ _) _)).part hPk) (fun h => by cases h) (fun a h => by cases h; exact ⟨_, _, rfl⟩) (by omega) ?_; intro A5 c5 w5 ho5 hg5 hl5; have hb5 : RowKit.Below W0.heap.size W0 w5 := Below.trans (below_alloc (Below.refl _ _) _) (grownB hg5 (by simp) (fun j hj => by cases hj; exact Nat.le_refl _)); clear hl5)
                  | (at_builtin; refine wpList_append_z (z := (k : Int)) (n := a) (base := W0.heap.size) rfl _ _ rfl rfl rfl rfl (ho5.alloc _) (by omega) (by have := hb5.size; simp; omega) (by simp) ?_; intro A6 c6 w6 ho6 hg6 hl6; have hb6 : RowKit.Below W0.heap.size W0 w6 := Below.trans (below_alloc hb5 _) (grownB hg6 (by have := hb5.size; simp; omega) (fun j hj => OwnZ.ge ho5 j hj)); clear hl6)
                  | (at_builtin; refine wpList_append_iv (n := a + 1) (m := k - a) (N := k + 1) (ys := ((rkL la be k).map Int.ofNat).drop a) (base := W0.heap.size) rfl _ _ rfl rfl rfl rfl ho6 (by omega) (by omega) hb6.size ⟨by rw [List.length_drop, List.length_map, rkL_len], fun h => by have := HKA.out; omega⟩ (fun h => by cases h) (fun a h => by cases h; exact ⟨_, _, rfl⟩) (by omega) ?_; intro A7 c7 w7 ho7 hg7 hl7; have hb7 : RowKit.Below W0.heap.size W0 w7 := Below.trans hb6 (grownB hg7 hb6.size (fun j hj => OwnZ.ge ho6 j hj)); clear hl7))
                go_roundw
                case rel => exact ⟨k + 1, c7, A7, by simp, rfl, hkk, fun h => by omega, below_step hsz hb7, by rw [HRI2.out]; exact own_le ho7 hsz.size⟩
                case measure => simp [intOf]; omega
              · have hca2 : ¬ a = co := fun h => hca h.symm
                go_wp2_with (first
                  | (at_builtin; refine wpList_append_iv (n := 0) (m := a) (N := a) (zs := []) (ys := ((rkL la be k).map Int.ofNat).take a) (base := W0.heap.size) rfl _ _ rfl rfl rfl rfl (ownZ_lit W0) (by omega) (by omega) (by simp) ((HIV.out.below (below_alloc (Below.refl _ _) _)).part hPk) (fun h => by cases h) (fun a h => by cases h; exact ⟨_, _, rfl⟩) (by omega) ?_; intro A5 c5 w5 ho5 hg5 hl5; have hb5 : RowKit.Below W0.heap.size W0 w5 := Below.trans (below_alloc (Below.refl _ _) _) (grownB hg5 (by simp) (fun j hj => by cases hj; exact Nat.le_refl _)); clear hl5)
                  | (at_builtin; refine wpList_append_z (z := (k : Int)) (n := a) (base := W0.heap.size) rfl _ _ rfl rfl rfl rfl (ho5.alloc _) (by omega) (by have := hb5.size; simp; omega) (by simp) ?_; intro A6 c6 w6 ho6 hg6 hl6; have hb6 : RowKit.Below W0.heap.size W0 w6 := Below.trans (below_alloc hb5 _) (grownB hg6 (by have := hb5.size; simp; omega) (fun j hj => OwnZ.ge ho5 j hj)); clear hl6)
                  | (at_builtin; refine wpList_append_iv (n := a + 1) (m := k - a) (N := k + 1) (ys := ((rkL la be k).map Int.ofNat).drop a) (base := W0.heap.size) rfl _ _ rfl rfl rfl rfl ho6 (by omega) (by omega) hb6.size (by have := (HIV.out.below hb6).rest hPk; rwa [Nat.zero_add] at this) (fun h => by cases h) (fun a h => by cases h; exact ⟨_, _, rfl⟩) (by omega) ?_; intro A7 c7 w7 ho7 hg7 hl7; have hb7 : RowKit.Below W0.heap.size W0 w7 := Below.trans hb6 (grownB hg7 hb6.size (fun j hj => OwnZ.ge ho6 j hj)); clear hl7))
                go_roundw
                case rel => exact ⟨k + 1, c7, A7, by simp, rfl, hkk, fun h => by omega, below_step hsz hb7, by rw [HRI2.out]; exact own_le ho7 hsz.size⟩
                case measure => simp [intOf]; omega
    · have p0 : decide (k < l) = false := by simpa using hk
      obtain rfl : k = l := by omega
      clear hk hkl
      go_wp2
      go_ret
      exact ⟨_, rfl, HOW.out, bi⟩
end

section
variable {α : Type} [Inhabited α]
theorem insInner_congr {lt lt' : α → α → Bool} {a : Nat} : ∀ (j : Nat) (d : Array α), j < d.size → (∀ p, p < j → lt d[j]! d[p]! = lt' d[j]! d[p]!) → insInner lt a j d = insInner lt' a j d
  | 0, d, _, _ => by unfold insInner; rfl
  | j + 1, d, hj, h => by
    unfold insInner
    rw [h j (by omega)]
    split
    · refine insInner_congr j _ (by rw [swp_size]; omega) fun p hp => ?_
      have g := swp_get d hj (show j < d.size by omega)
      rw [g, g]
      simp only [if_true, show p ≠ j by omega, show p ≠ j + 1 by omega, if_false]
      exact h p (by omega)
    · rfl
theorem insInner_permIn {lt : α → α → Bool} {b : Nat} : ∀ (j : Nat) (d : Array α), j < b → b ≤ d.size → PermIn 0 b d (insInner lt 0 j d)
  | 0, d, _, _ => by unfold insInner; exact permIn_refl _ _ _
  | j + 1, d, hj, hb => by
    unfold insInner
    split
    · exact permIn_trans _ _ _ _ _ (swp_permIn d 0 b (j + 1) j (Nat.zero_le _) hj (Nat.zero_le _) (by omega) hb) (insInner_permIn j _ (by omega) (by rw [swp_size]; exact hb))
    · exact permIn_refl _ _ _
theorem insOuter_congr {lt lt' : α → α → Bool} {b : Nat} : ∀ (n i : Nat) (d : Array α), b - i = n → i ≤ b → b ≤ d.size → (∀ q p, i ≤ q → q < b → p < q → lt d[q]! d[p]! = lt' d[q]! d[p]!) → insOuter lt 0 b i d = insOuter lt' 0 b i d
  | 0, i, d, hn, hi, _, _ => by
    rw [insOuter, if_neg (by omega), insOuter, if_neg (by omega)]
  | n + 1, i, d, hn, hi, hb, h => by
    have hlt : i < b := by omega
    have e1 : ∀ lt : α → α → Bool, insOuter lt 0 b i d = insOuter lt 0 b (i + 1) (insInner lt 0 i d) := fun lt => by
      conv => lhs; rw [insOuter]
      rw [if_pos hlt]
    rw [e1 lt, e1 lt']
    rw [← insInner_congr (lt := lt) (lt' := lt') i d (by omega) (fun p hp => h i p (Nat.le_refl _) hlt hp)]
    have hP := insInner_permIn (lt := lt) (b := i + 1) i d (by omega) (by omega)
    refine insOuter_congr n (i + 1) _ (by omega) hlt (by rw [hP.1]; exact hb) fun q p hq hqb hpq => ?_
    rw [hP.2.1 q (.inr hq)]
    by_cases hp : p < i + 1
    · exact permIn_all d _ 0 (i + 1) (fun x => lt d[q]! x = lt' d[q]! x) (by omega) hP (fun r _ hr => h q r (by omega) hqb (by omega)) p (Nat.zero_le _) hp
    · rw [hP.2.1 p (.inr (by omega))]
      exact h q p (by omega) hqb hpq
end
/-- Less, or as great and of a lesser number. -/
def ltT {n : Nat} (lt : Fin n → Fin n → Bool) (x y : Fin n) : Bool := lt x y || (!lt y x && decide (x.val < y.val))
theorem ltT_iff {n : Nat} (lt : Fin n → Fin n → Bool) (x y : Fin n) : ltT lt x y = true ↔ lt x y = true ∨ (lt y x = false ∧ x.val < y.val) := by simp [ltT]
theorem ltT_swo {n : Nat} {lt : Fin n → Fin n → Bool} (h : SWO lt) : SWO (ltT lt) where
  irrefl x := by simp [ltT, h.irrefl]
  trans x y z := by
    rw [ltT_iff, ltT_iff, ltT_iff]
    rintro (h1 | ⟨h1, k1⟩) (h2 | ⟨h2, k2⟩)
    · exact .inl (h.trans _ _ _ h1 h2)
    · refine .inl ?_
      cases e : lt x z with
      | true => rfl
      | false => have := h.ntrans _ _ _ e h2; rw [h1] at this; cases this
    · refine .inl ?_
      cases e : lt x z with
      | true => rfl
      | false => have := h.ntrans _ _ _ h1 e; rw [h2] at this; cases this
    · exact .inr ⟨h.ntrans _ _ _ h2 h1, by omega⟩
  ntrans x y z h1 h2 := by
    cases e : ltT lt x z with
    | false => rfl
    | true =>
      exfalso
      have n1 : ¬ (lt x y = true ∨ (lt y x = false ∧ x.val < y.val)) := by rw [← ltT_iff, h1]; simp
      have n2 : ¬ (lt y z = true ∨ (lt z y = false ∧ y.val < z.val)) := by rw [← ltT_iff, h2]; simp
      have a1 : lt x y = false := by cases q : lt x y with | false => rfl | true => exact absurd (.inl q) n1
      have a2 : lt y z = false := by cases q : lt y z with | false => rfl | true => exact absurd (.inl q) n2
      have a3 := h.ntrans _ _ _ a1 a2
      rcases (ltT_iff lt x z).1 e with q | ⟨q, r⟩
      · rw [a3] at q; cases q
      · have b1 : lt y x = false := by
          cases s : lt y x with
          | false => rfl
          | true => have := h.ntrans _ _ _ a2 q; rw [s] at this; cases this
        have b2 : lt z y = false := by
          cases s : lt z y with
          | false => rfl
          | true => have := h.ntrans _ _ _ q a1; rw [s] at this; cases this
        have c1 : ¬ x.val < y.val := fun k => n1 (.inr ⟨b1, k⟩)
        have c2 : ¬ y.val < z.val := fun k => n2 (.inr ⟨b2, k⟩)
        omega
/-- What comes later in a list that the sort gives is not less; of equals the lesser number comes first. -/
theorem ins_sorted {m : Nat} {lt : Fin (m + 1) → Fin (m + 1) → Bool} (h : SWO lt) {zs : List Nat} (hz : ∀ x ∈ zs, x < m + 1) (hs : zs.Pairwise (· < ·)) :
    (Sort.insertionSort lt (dOf m zs) 0 zs.length).toList.Pairwise (fun x y => ltT lt y x = false) ∧ (Sort.insertionSort lt (dOf m zs) 0 zs.length).toList.Perm (dOf m zs).toList := by
  have hat : ∀ j, j < zs.length → ((dOf m zs)[j]!).val = zs.getD j 0 := fun j hj => by
    have h1 : (dOf m zs)[j]! = Fin.ofNat (m + 1) zs[j] := by
      rw [getElem!_pos _ _ (by rw [dOf_size]; exact hj)]
      simp [dOf]
    rw [h1, List.getD_eq_getElem?_getD, List.getElem?_eq_getElem hj]
    have := hz _ (List.getElem_mem hj)
    simp [Fin.ofNat, Nat.mod_eq_of_lt this]
  have e : Sort.insertionSort lt (dOf m zs) 0 zs.length = Sort.insertionSort (ltT lt) (dOf m zs) 0 zs.length := by
    unfold Sort.insertionSort
    by_cases h1 : 0 + 1 ≤ zs.length
    · refine insOuter_congr _ (0 + 1) _ rfl h1 (by rw [dOf_size]; exact Nat.le_refl _) fun q p hq hqb hpq => ?_
      have hlt : zs.getD p 0 < zs.getD q 0 := by
        have := List.pairwise_iff_getElem.1 hs p q (by omega) hqb hpq
        rwa [List.getD_eq_getElem?_getD, List.getD_eq_getElem?_getD, List.getElem?_eq_getElem (by omega), List.getElem?_eq_getElem hqb]
      rw [← hat p (by omega), ← hat q hqb] at hlt
      have : decide (((dOf m zs)[q]!).val < ((dOf m zs)[p]!).val) = false := by rw [decide_eq_false_iff_not]; omega
      unfold ltT
      rw [this, Bool.and_false, Bool.or_false]
    · rw [insOuter, if_neg (by omega), insOuter, if_neg (by omega)]
  rw [e]
  obtain ⟨hP, hS⟩ := insertionSort_holds (ltT_swo h) (dOf m zs) 0 zs.length (Nat.zero_le _) (by rw [dOf_size]; exact Nat.le_refl _)
  have hsz : (Sort.insertionSort (ltT lt) (dOf m zs) 0 zs.length).size = zs.length := by rw [hP.1, dOf_size]
  constructor
  · rw [List.pairwise_iff_getElem]
    intro i j hi hj hij
    have := hS i j (Nat.zero_le _) hij (by simpa [hsz] using hj)
    rwa [getElem!_pos _ _ (by simpa using hj), getElem!_pos _ _ (by simpa using hi)] at this
  · have := hP.2.2
    have ex : ∀ (d : Array (Fin (m + 1))) (n : Nat), d.size = n → d.extract 0 n = d := fun d n e => by subst e; exact Array.extract_size
    rwa [ex _ _ hsz, ex _ _ (dOf_size m zs)] at this
/-- y is not ahead of x. -/
def leK (la be : List Int) (x y : Nat) : Prop := ¬ (rkV la be y x < 0 ∨ ¬ rkV la be x y < 0 ∧ y < x)
theorem keep_le {la be : List Int} {k x : Nat} (h : keepB la be k x = true) (hx : x < k) : leK la be x k := by
  unfold keepB at h
  rw [Bool.or_eq_true, Bool.and_eq_true, decide_eq_true_iff, decide_eq_true_iff, decide_eq_true_iff] at h
  unfold leK
  rw [rkV_lt, rkV_lt]
  omega
theorem stop_lt {la be : List Int} {k x : Nat} (h : keepB la be k x = false) : rkV la be k x < 0 := by
  unfold keepB at h
  rw [Bool.or_eq_false_iff, Bool.and_eq_false_iff, decide_eq_false_iff_not, decide_eq_false_iff_not, decide_eq_false_iff_not] at h
  rw [rkV_lt]
  omega
theorem lt_le {la be : List Int} {k x : Nat} (h : rkV la be k x < 0) : leK la be k x := by
  unfold leK
  rw [rkV_lt] at h
  rw [rkV_lt, rkV_lt]
  omega
theorem lt_le_lt {la be : List Int} {k x y : Nat} (h : rkV la be k x < 0) (h2 : leK la be x y) : rkV la be k y < 0 := by
  unfold leK at h2
  rw [rkV_lt] at h ⊢
  rw [rkV_lt, rkV_lt] at h2
  omega
theorem takeWhile_part (p : Nat → Bool) : ∀ l : List Nat, (∀ x ∈ l.take (l.takeWhile p).length, p x = true) ∧ ∀ y r, l.drop (l.takeWhile p).length = y :: r → p y = false
  | [] => ⟨fun x h => by simp at h, fun y r h => by simp at h⟩
  | a :: l => by
    have ih := takeWhile_part p l
    rw [List.takeWhile_cons]
    split
    · rename_i h
      refine ⟨fun x hx => ?_, fun y r hy => ?_⟩
      · rw [List.length_cons, List.take_succ_cons] at hx
        rcases List.mem_cons.1 hx with rfl | hx
        · exact h
        · exact ih.1 x hx
      · rw [List.length_cons, List.drop_succ_cons] at hy
        exact ih.2 y r hy
    · rename_i h
      refine ⟨fun x hx => by simp at hx, fun y r hy => ?_⟩
      simp at hy
      obtain ⟨rfl, _⟩ := hy
      simpa using h
theorem insK_sorted {la be : List Int} {k : Nat} {l : List Nat} (h : l.Pairwise (leK la be)) (hk : ∀ x ∈ l, x < k) : (insK la be k l).Pairwise (leK la be) := by
  obtain ⟨h1, h2⟩ := takeWhile_part (keepB la be k) l
  have hsp : l = l.take (posK la be k l) ++ l.drop (posK la be k l) := (List.take_append_drop _ _).symm
  have hpw := h
  rw [hsp, List.pairwise_append] at hpw
  obtain ⟨p1, p2, p3⟩ := hpw
  have hd : ∀ z ∈ l.drop (posK la be k l), rkV la be k z < 0 := by
    intro z hz
    unfold posK at hz p2
    cases e : l.drop (l.takeWhile (keepB la be k)).length with
    | nil => rw [e] at hz; cases hz
    | cons y r =>
      have hy := stop_lt (h2 y r e)
      rw [e] at hz p2
      rcases List.mem_cons.1 hz with rfl | hz
      · exact hy
      · exact lt_le_lt hy ((List.pairwise_cons.1 p2).1 z hz)
  unfold insK
  rw [List.append_assoc, List.pairwise_append]
  refine ⟨p1, ?_, fun x hx y hy => ?_⟩
  · rw [List.singleton_append, List.pairwise_cons]
    exact ⟨fun z hz => lt_le (hd z hz), p2⟩
  · rw [List.singleton_append] at hy
    rcases List.mem_cons.1 hy with rfl | hy
    · exact keep_le (h1 x hx) (hk x (List.mem_of_mem_take hx))
    · exact p3 x hx y hy
theorem rkL_sorted (la be : List Int) : ∀ k, (rkL la be k).Pairwise (leK la be)
  | 0 => List.Pairwise.nil
  | k + 1 => insK_sorted (rkL_sorted la be k) (rkL_lt la be k)
theorem rkL_perm (la be : List Int) : ∀ k, (rkL la be k).Perm (List.range k)
  | 0 => List.Perm.refl _
  | k + 1 => by
    rw [rkL, insK, List.range_succ]
    have h1 : ((rkL la be k).take (posK la be k (rkL la be k)) ++ [k] ++ (rkL la be k).drop (posK la be k (rkL la be k))).Perm (((rkL la be k).take (posK la be k (rkL la be k)) ++ (rkL la be k).drop (posK la be k (rkL la be k))) ++ [k]) := by
      rw [List.append_assoc, List.append_assoc]
      exact List.Perm.append_left _ List.perm_append_comm
    rw [List.take_append_drop] at h1
    exact h1.trans ((rkL_perm la be k).append_right _)
theorem stab_rkL (la be : List Int) {m : Nat} (h0 : 0 < m) : stabG (m := m - 1) (cfK la be) (List.range m) = rkL la be m := by
  have hz : ∀ x ∈ List.range m, x < m - 1 + 1 := fun x hx => by have := List.mem_range.1 hx; omega
  obtain ⟨h1, h2⟩ := ins_sorted (m := m - 1) (cfK_swo la be _) hz List.pairwise_lt_range
  unfold stabG
  refine List.Perm.eq_of_pairwise (le := leK la be) (fun a b _ _ k1 k2 => ?_) ?_ (rkL_sorted la be m) ?_
  · unfold leK at k1 k2
    rw [rkV_lt, rkV_lt] at k1 k2
    omega
  · rw [List.pairwise_map]
    refine h1.imp fun {a b} hab => ?_
    intro hc
    have : ltT (ltOf (cfK la be)) b a = true := (ltT_iff _ _ _).2 (by
      unfold ltOf cfK
      rw [decide_eq_true_iff, decide_eq_false_iff_not]
      exact hc)
    rw [hab] at this
    cases this
  · have h3 := h2.map (fun x : Fin (m - 1 + 1) => x.val)
    have e : ((dOf (m - 1) (List.range m)).toList.map fun x => x.val) = List.range m := by
      unfold dOf
      rw [List.map_map]
      conv => rhs; rw [← List.map_id (List.range m)]
      refine List.map_congr_left fun x hx => ?_
      have := hz x hx
      simp [Fin.ofNat, Nat.mod_eq_of_lt this]
    rw [e] at h3
    exact h3.trans (rkL_perm la be m).symm
end Go.Proofs.YtnbnoacadhoimaaGreatDoor
