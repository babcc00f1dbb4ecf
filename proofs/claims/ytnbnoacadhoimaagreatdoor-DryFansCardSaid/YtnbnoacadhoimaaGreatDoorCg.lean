/- The reference's list of alarms. -/
import Derived.Test.YtnbnoacadhoimaaGreatDoorCeG
set_option linter.unusedSimpArgs false
set_option linter.unusedVariables false
set_option maxRecDepth 100000
set_option maxHeartbeats 8000000
namespace Go.Proofs.YtnbnoacadhoimaaGreatDoor
open Go Go.RowKit Go.Sort

section
variable {w : World} {A : Option Addr} {n c m : Nat} {rs : List (List Int)} {x : Wt}
set_option maxHeartbeats 16000000 in
theorem ralarms_ok (h : Rv w A n rs) (hg : Good m rs) (hx : watchB x = true) (hs : 3 * m * n ≤ 80000) (hn : n ≤ 1000) :
    Calls Tryz.prog 19 #[.slice A n c, wtv x] w fun e w' => ∃ A' n' c', e = .returned (.slice A' n' c') ∧ OwnA w' w.heap.size (.slice A' n' c') n' (alT x m rs n) ∧ Below w.heap.size w w' := by
  have HX := qh hx
  obtain ⟨X, hX⟩ : ∃ X, x = X := ⟨_, rfl⟩
  have HXX : Hid (x = X) := qh hX
  rw [hX] at HX ⊢
  obtain ⟨xa, xr, xi, xo⟩ := x
  have HG := qh hg
  have HH := qh h
  have HB : Hid (∀ t, t < n → 3 * m * t + 3 * m ≤ 80000) := qh (fun t ht => by
    have : 3 * m * (t + 1) ≤ 3 * m * n := Nat.mul_le_mul_left _ ht
    rw [Nat.mul_add, Nat.mul_one] at this
    omega)
  have hm64 := hg.m64
  clear h hg hx hs
  subst hX
  go_enter Tryz.func19, Tryz.ntmps19
  go_upto_region 3 with (fail)
  have BX := Blk.new w 24 #[.int .i64 xa, .int .i64 xr, .int .i64 xi, .int .i64 xo]
  have c0 := BX.cell 0
  have c1 := BX.cell 1
  have c2 := BX.cell 2
  have c3 := BX.cell 3
  have zX := BX.lt
  simp only [List.getElem?_toArray, List.getElem?_cons_zero, List.getElem?_cons_succ] at c0 c1 c2 c3
  have bV : Below w.heap.size w (w.alloc (.cells #[.int .i64 xa, .int .i64 xr, .int .i64 xi, .int .i64 xo] 24)) := bi
  obtain ⟨V, hV⟩ : ∃ V, w.alloc (.cells #[.int .i64 xa, .int .i64 xr, .int .i64 xi, .int .i64 xo] 24) = V := ⟨_, rfl⟩
  rw [hV] at c0 c1 c2 c3 zX bV ⊢
  clear hV BX
  have HCV := qh (And.intro c0 (And.intro c1 (And.intro c2 c3)))
  clear c0 c1 c2 c3
  have HRV : Hid (∀ W, Below V.heap.size V W → Rv W A n rs) := qh (fun W hW => (HH.out.below bV).below hW)
  go_loopw [5, 6] (fun v u wr => ∃ (t nn co : Nat) (Ao : Option Addr), u = .int .i64 (t : Int) ∧ v = .slice Ao nn co ∧ t ≤ n ∧ Below V.heap.size V wr ∧ OwnA wr V.heap.size (.slice Ao nn co) nn (alT ⟨xa, xr, xi, xo⟩ m rs t)) (fun _ u _ => n - (intOf u).toNat)
  case atStart => exact ⟨0, 0, 0, none, rfl, rfl, Nat.zero_le _, bi, World.ownsRow_nil _ _ _ _⟩
  case round =>
    obtain ⟨t, nn, co, Ao, rfl, rfl, htn, hb, how⟩ := hrel
    have _ := bm hb
    rename World => wo
    have HOW := qh how
    clear how
    by_cases ht : t < n
    · have p0 : decide (t < n) = true := by simpa using ht
      have HT := qh ht
      obtain ⟨b, o, rfl, hbl, hat⟩ := (HRV.out V (Below.refl _ _)).at_ (by omega)
      obtain ⟨B, l, e, k0, kv⟩ := hat t ht
      have hlm : l = m := by rw [← HG.out.len _ (getD_in (d := ([] : List Int)) (show t < rs.length by rw [HH.out.len]; exact ht))]; exact kv.len.symm
      subst hlm
      clear hat kv
      go_wp2
      go_loopw [5, 7] (fun v u wr => ∃ (k nn co : Nat) (Ao : Option Addr), u = .int .i64 (k : Int) ∧ v = .slice Ao nn co ∧ k ≤ l ∧ Below V.heap.size V wr ∧ OwnA wr V.heap.size (.slice Ao nn co) nn (alT ⟨xa, xr, xi, xo⟩ l rs t ++ alK ⟨xa, xr, xi, xo⟩ l rs t k)) (fun _ u _ => l - (intOf u).toNat)
      case atStart => exact ⟨0, nn, co, Ao, rfl, rfl, Nat.zero_le _, bi, by rw [alK, List.append_nil]; exact HOW.out⟩
      case round =>
        obtain ⟨k, nn, co, Ao, rfl, rfl, hkl, hbk, how⟩ := hrel
        have _ := bm hbk
        have HO2 := qh how
        clear how
        replace k0 := cell_on hbk k0
        have zb : b < wr.heap.size := World.block_lt_of_cell? wr _ k0
        by_cases hk : k < l
        · have p1 : decide (k < l) = true := by simpa using hk
          have HK := qh (And.intro ht hk)
          have HOS : Hid (OwnA wr V.heap.size (.slice Ao nn co) nn (alT ⟨xa, xr, xi, xo⟩ l rs t ++ alK ⟨xa, xr, xi, xo⟩ l rs t k ++ alJ ⟨xa, xr, xi, xo⟩ l rs t k 0)) := qh (by rw [alJ, List.append_nil]; exact HO2.out)
          have hn9 : nn ≤ 90000 := by
            have e := HOS.out.n
            rw [List.length_append, List.length_append] at e
            have h1 := alT_len ⟨xa, xr, xi, xo⟩ l rs t
            have h2 := alK_len ⟨xa, xr, xi, xo⟩ l rs t k
            have h3 := alJ_len ⟨xa, xr, xi, xo⟩ l rs t k 0
            have h4 := HB.out t HK.out.1
            have h5 := HK.out.2
            omega
          have c0 := cell_on hbk HCV.out.1
          have c1 := cell_on hbk HCV.out.2.1
          have c2 := cell_on hbk HCV.out.2.2.1
          have c3 := cell_on hbk HCV.out.2.2.2
          have hz := hbk.size
          have HS : Hid (alT ⟨xa, xr, xi, xo⟩ l rs t ++ alK ⟨xa, xr, xi, xo⟩ l rs t k ++ alJ ⟨xa, xr, xi, xo⟩ l rs t k 1 = (alT ⟨xa, xr, xi, xo⟩ l rs t ++ alK ⟨xa, xr, xi, xo⟩ l rs t k ++ alJ ⟨xa, xr, xi, xo⟩ l rs t k 0) ++ if kindB ⟨xa, xr, xi, xo⟩ l rs t k 0 then [((t : Int), (k : Int), kindT 0)] else []) := qh (alJ_snoc _ 0)
          obtain ⟨g, hgg⟩ : ∃ g, kindB ⟨xa, xr, xi, xo⟩ l rs t k 0 = g := ⟨_, rfl⟩
          rw [hgg] at HS
          have HF := qh (fun W (hW : Below V.heap.size V W) => rhot_ok (c := c) (x := ⟨xa, xr, xi, xo⟩) hgg (HRV.out W hW) HG.out HK.out.1 HK.out.2)
          clear hgg
          go_upto_if 27 with (go_at_call 58; (with_reducible refine mz (HF.out _ bi) fun w7 hb7 _ => ?_))
          clear c0 c1 c2 c3
          go_cut [5] (fun v wx => ∃ (nn co : Nat) (Ao : Option Addr), v = .slice Ao nn co ∧ RowKit.Below V.heap.size V wx ∧ OwnA wx V.heap.size (.slice Ao nn co) nn (alT ⟨xa, xr, xi, xo⟩ l rs t ++ alK ⟨xa, xr, xi, xo⟩ l rs t k ++ alJ ⟨xa, xr, xi, xo⟩ l rs t k 1))
          case first =>
            clear HX HH HG HOW HO2 HF HCV
            cases g with
            | false =>
              go_wp2
              go_meet
              exact ⟨nn, co, Ao, rfl, below_step hbk hb7, by rw [HS.out, if_neg (by decide), List.append_nil]; exact HOS.out.below hb7⟩
            | true =>
              go_wp2_with (at_builtin; refine wpList_append_a (x := ((t : Int), (k : Int), kindT 0)) (n := nn) (base := V.heap.size) rfl _ _ rfl rfl rfl rfl ((HOS.out.below hb7).alloc _) (by omega) (by have := hb7.size; simp; omega) (by simp) (by simp) (by simp [kindT]) ?_; intro A5 c5 w5 ho5 hg5 hl5)
              go_meet
              exact ⟨nn + 1, c5, A5, rfl, below_app (below_step hbk hb7) (HOS.out.below hb7) (Nat.le_trans hz hb7.size) hg5, by rw [HS.out]; simpa using ho5⟩
          case rest =>
            obtain ⟨nn, co, Ao, rfl, hbk, how⟩ := hcut
            have _ := bm hbk
            rename World => wd
            have HOS := qh how
            clear how
            have hn9 : nn ≤ 90000 := by
              have e := HOS.out.n
              rw [List.length_append, List.length_append] at e
              have h1 := alT_len ⟨xa, xr, xi, xo⟩ l rs t
              have h2 := alK_len ⟨xa, xr, xi, xo⟩ l rs t k
              have h3 := alJ_len ⟨xa, xr, xi, xo⟩ l rs t k 1
              have h4 := HB.out t HK.out.1
              have h5 := HK.out.2
              omega
            have c0 := cell_on hbk HCV.out.1
            have c1 := cell_on hbk HCV.out.2.1
            have c2 := cell_on hbk HCV.out.2.2.1
            have c3 := cell_on hbk HCV.out.2.2.2
            have hz := hbk.size
            have HS : Hid (alT ⟨xa, xr, xi, xo⟩ l rs t ++ alK ⟨xa, xr, xi, xo⟩ l rs t k ++ alJ ⟨xa, xr, xi, xo⟩ l rs t k 2 = (alT ⟨xa, xr, xi, xo⟩ l rs t ++ alK ⟨xa, xr, xi, xo⟩ l rs t k ++ alJ ⟨xa, xr, xi, xo⟩ l rs t k 1) ++ if kindB ⟨xa, xr, xi, xo⟩ l rs t k 1 then [((t : Int), (k : Int), kindT 1)] else []) := qh (alJ_snoc _ 1)
            obtain ⟨g, hgg⟩ : ∃ g, kindB ⟨xa, xr, xi, xo⟩ l rs t k 1 = g := ⟨_, rfl⟩
            rw [hgg] at HS
            have HF := qh (fun W (hW : Below V.heap.size V W) => rrises_ok (c := c) (x := ⟨xa, xr, xi, xo⟩) hgg (HRV.out W hW) HG.out HX.out HK.out.1 HK.out.2)
            clear hgg
            go_upto_if 38 with (go_at_call 59; (with_reducible refine mz (HF.out _ bi) fun w7 hb7 _ => ?_))
            clear c0 c1 c2 c3
            go_cut [5] (fun v wx => ∃ (nn co : Nat) (Ao : Option Addr), v = .slice Ao nn co ∧ RowKit.Below V.heap.size V wx ∧ OwnA wx V.heap.size (.slice Ao nn co) nn (alT ⟨xa, xr, xi, xo⟩ l rs t ++ alK ⟨xa, xr, xi, xo⟩ l rs t k ++ alJ ⟨xa, xr, xi, xo⟩ l rs t k 2))
            case first =>
              clear HX HH HG HOW HO2 HF HCV
              cases g with
              | false =>
                go_wp2
                go_meet
                exact ⟨nn, co, Ao, rfl, below_step hbk hb7, by rw [HS.out, if_neg (by decide), List.append_nil]; exact HOS.out.below hb7⟩
              | true =>
                go_wp2_with (at_builtin; refine wpList_append_a (x := ((t : Int), (k : Int), kindT 1)) (n := nn) (base := V.heap.size) rfl _ _ rfl rfl rfl rfl ((HOS.out.below hb7).alloc _) (by omega) (by have := hb7.size; simp; omega) (by simp) (by simp) (by simp [kindT]) ?_; intro A5 c5 w5 ho5 hg5 hl5)
                go_meet
                exact ⟨nn + 1, c5, A5, rfl, below_app (below_step hbk hb7) (HOS.out.below hb7) (Nat.le_trans hz hb7.size) hg5, by rw [HS.out]; simpa using ho5⟩
            case rest =>
              obtain ⟨nn, co, Ao, rfl, hbk, how⟩ := hcut
              have _ := bm hbk
              rename World => we
              have HOS := qh how
              clear how
              have hn9 : nn ≤ 90000 := by
                have e := HOS.out.n
                rw [List.length_append, List.length_append] at e
                have h1 := alT_len ⟨xa, xr, xi, xo⟩ l rs t
                have h2 := alK_len ⟨xa, xr, xi, xo⟩ l rs t k
                have h3 := alJ_len ⟨xa, xr, xi, xo⟩ l rs t k 2
                have h4 := HB.out t HK.out.1
                have h5 := HK.out.2
                omega
              have c0 := cell_on hbk HCV.out.1
              have c1 := cell_on hbk HCV.out.2.1
              have c2 := cell_on hbk HCV.out.2.2.1
              have c3 := cell_on hbk HCV.out.2.2.2
              have hz := hbk.size
              have HS : Hid (alT ⟨xa, xr, xi, xo⟩ l rs t ++ alK ⟨xa, xr, xi, xo⟩ l rs t k ++ alJ ⟨xa, xr, xi, xo⟩ l rs t k 3 = (alT ⟨xa, xr, xi, xo⟩ l rs t ++ alK ⟨xa, xr, xi, xo⟩ l rs t k ++ alJ ⟨xa, xr, xi, xo⟩ l rs t k 2) ++ if kindB ⟨xa, xr, xi, xo⟩ l rs t k 2 then [((t : Int), (k : Int), kindT 2)] else []) := qh (alJ_snoc _ 2)
              obtain ⟨g, hgg⟩ : ∃ g, kindB ⟨xa, xr, xi, xo⟩ l rs t k 2 = g := ⟨_, rfl⟩
              rw [hgg] at HS
              have HF := qh (fun W (hW : Below V.heap.size V W) => rspot_ok (c := c) (x := ⟨xa, xr, xi, xo⟩) hgg (HRV.out W hW) HG.out HX.out HK.out.1 HK.out.2)
              clear hgg
              go_upto_if 49 with (go_at_call 60; (with_reducible refine mz (HF.out _ bi) fun w7 hb7 _ => ?_))
              clear c0 c1 c2 c3
              have hkm := HK.out.2
              clear HX HH HG HOW HO2 HF HCV
              cases g with
              | false =>
                go_wp2
                exact ⟨⟨k + 1, nn, co, Ao, by simp, rfl, HK.out.2, below_step hbk hb7, by rw [alK, ← List.append_assoc, HS.out, if_neg (by decide), List.append_nil]; exact HOS.out.below hb7⟩, by have := HK.out.2; simp [intOf]; omega⟩
              | true =>
                go_wp2_with (at_builtin; refine wpList_append_a (x := ((t : Int), (k : Int), kindT 2)) (n := nn) (base := V.heap.size) rfl _ _ rfl rfl rfl rfl ((HOS.out.below hb7).alloc _) (by omega) (by have := hb7.size; simp; omega) (by simp) (by simp) (by simp [kindT]) ?_; intro A5 c5 w5 ho5 hg5 hl5)
                exact ⟨⟨k + 1, nn + 1, c5, A5, by simp, rfl, HK.out.2, below_app (below_step hbk hb7) (HOS.out.below hb7) (Nat.le_trans hz hb7.size) hg5, by rw [alK, ← List.append_assoc, HS.out]; simpa using ho5⟩, by have := HK.out.2; simp [intOf]; omega⟩
        · have p1 : decide (k < l) = false := by simpa using hk
          obtain rfl : k = l := by omega
          clear hk hkl
          go_wp2
          go_roundw
          case rel => exact ⟨t + 1, nn, co, Ao, by simp, rfl, HT.out, hbk, by rw [alT]; exact HO2.out⟩
          case measure => have := HT.out; simp [intOf]; omega
    · have p0 : decide (t < n) = false := by simpa using ht
      obtain rfl : t = n := by omega
      clear ht htn
      go_wp2
      go_ret
      exact ⟨Ao, nn, co, rfl, own_le HOW.out bV.size, below_step bV bi⟩
end
end Go.Proofs.YtnbnoacadhoimaaGreatDoor
