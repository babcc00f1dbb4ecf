/- The weather: hours that suit a climate. -/
import Derived.Test.YtnbnoacadhoimaaGreatDoorPosG
import Derived.Test.YtnbnoacadhoimaaGreatDoorLd
import Derived.Deep.DeepCutAuto
import Derived.Deep.CutRange
import Derived.Deep.CutBlock
set_option linter.unusedSimpArgs false
set_option linter.unusedVariables false
set_option maxRecDepth 100000
set_option maxHeartbeats 8000000
namespace Go.Proofs.YtnbnoacadhoimaaGreatDoor
open Go Go.RowKit

section
variable {w : World}
theorem from_ok (n a b : Int) : Calls Tryz.prog 56 #[.int .i64 n, .int .i64 a, .int .i64 b] w fun e w' => e = .returned (.bool (decide (a ≤ n) && decide (n ≤ b))) ∧ Below w.heap.size w w' := by
  go_enter Tryz.func56, Tryz.ntmps56
  by_cases h1 : a ≤ n <;> by_cases h2 : n ≤ b
  all_goals go_wp2
  all_goals go_ret
  all_goals exact ⟨by simp [h1, h2], bi⟩
end
/-- An hour: temperature, humidity. -/
abbrev Hr := Int × Int
/-- A climate: cold, warm, dry, damp. -/
structure Clim where
  c : Int
  m : Int
  d : Int
  p : Int
abbrev hrv (h : Hr) : Value := .agg #[.int .i64 h.1, .int .i64 h.2]
abbrev clv (c : Clim) : Value := .agg #[.int .i64 c.c, .int .i64 c.m, .int .i64 c.d, .int .i64 c.p]
def suitB (h : Hr) (c : Clim) : Bool := (decide (c.c ≤ h.1) && decide (h.1 ≤ c.m)) && (decide (c.d ≤ h.2) && decide (h.2 ≤ c.p))
section
variable {w : World}
theorem suits_ok (h : Hr) (c : Clim) : Calls Tryz.prog 62 #[hrv h, clv c] w fun e w' => e = .returned (.bool (suitB h c)) ∧ Below w.heap.size w w' := by
  obtain ⟨t, u⟩ := h
  obtain ⟨c1, c2, c3, c4⟩ := c
  go_enter Tryz.func62, Tryz.ntmps62
  cases f1 : (decide (c1 ≤ t) && decide (t ≤ c2))
  · go_wp2_with (go_at_call 56; (with_reducible refine mo2 w (from_ok t c1 c2) (by go_size) fun w1 hb1 hc1 hf1 hz1_0 hz1_1 _ => ?_))
    go_ret
    exact ⟨by simp [suitB, f1], bi⟩
  · go_wp2_with first | (go_at_call 56; (with_reducible show Calls _ _ #[.int .i64 t, .int .i64 c1, .int .i64 c2] _ _); (with_reducible refine mo2 w (from_ok t c1 c2) (by go_size) fun w1 hb1 hc1 hf1 hz1_0 hz1_1 _ => ?_)) | (go_at_call 56; (with_reducible refine mo2 w (from_ok u c3 c4) (by go_size) fun w2 hb2 hc2 hf2 hz2_0 hz2_1 _ => ?_))
    go_ret
    exact ⟨by simp [suitB, f1], bi⟩
end

theorem own_le {w : World} {base base' size n : Nat} {e : TypeId} {v : Value} {xs : List Value} (h : w.ownsRow base e size v n xs) (hb : base' ≤ base) : w.ownsRow base' e size v n xs :=
  ⟨h.1, h.2.elim Or.inl (fun ⟨g, cap, cur, hv, hg, r⟩ => Or.inr ⟨g, cap, cur, hv, Nat.le_trans hb hg, r⟩)⟩
abbrev R64 (z : Int) : Prop := -9223372036854775808 ≤ z ∧ z < 9223372036854775808
/-- A slice of integers. -/
structure Iv (w : World) (A : Option Addr) (n : Nat) (zs : List Int) : Prop where
  len : zs.length = n
  at_ : 0 < n → ∃ b o, A = some ⟨b, o, none⟩ ∧ b < w.heap.size ∧ ∀ j, j < n → w.cell? ⟨b, o + j, none⟩ = some (.int .i64 (zs.getD j 0))
theorem Iv.below {w w' : World} {A : Option Addr} {n : Nat} {zs : List Int} (h : Iv w A n zs) (hb : Below w.heap.size w w') : Iv w' A n zs :=
  ⟨h.len, fun hn => by
    obtain ⟨b, o, e, h1, h2⟩ := h.at_ hn
    exact ⟨b, o, e, Nat.lt_of_lt_of_le h1 hb.size, fun j hj => by rw [hb.cell (p := ⟨b, o + j, none⟩) h1]; exact h2 j hj⟩⟩
theorem drop_cons {zs : List Int} {i : Nat} (h : i < zs.length) : zs.drop i = zs.getD i 0 :: zs.drop (i + 1) := by
  rw [List.drop_eq_getElem_cons h, List.getD_eq_getElem?_getD, List.getElem?_eq_getElem h]; rfl
/-- Hours from a place on. -/
def Hrs (w : World) (b off : Nat) (hs : List Hr) : Prop := ∀ j, j < hs.length → w.cell? ⟨b, off + j * 2, none⟩ = some (.int .i64 (hs.getD j (0, 0)).1) ∧ w.cell? ⟨b, off + j * 2 + 1, none⟩ = some (.int .i64 (hs.getD j (0, 0)).2)
theorem Hrs.on {w w' : World} {B b off : Nat} {hs : List Hr} (h : Hrs w b off hs) (hb : Below B w w') (hlt : b < B) : Hrs w' b off hs := fun j hj =>
  ⟨(hb.cell (p := ⟨b, off + j * 2, none⟩) hlt).trans (h j hj).1, (hb.cell (p := ⟨b, off + j * 2 + 1, none⟩) hlt).trans (h j hj).2⟩
/-- A slice of hours. -/
structure Hv (w : World) (A : Option Addr) (n : Nat) (hs : List Hr) : Prop where
  len : hs.length = n
  at_ : 0 < n → ∃ b o, A = some ⟨b, o, none⟩ ∧ b < w.heap.size ∧ Hrs w b o hs
theorem Hv.below {w w' : World} {A : Option Addr} {n : Nat} {hs : List Hr} (h : Hv w A n hs) (hb : Below w.heap.size w w') : Hv w' A n hs :=
  ⟨h.len, fun hn => by
    obtain ⟨b, o, e, h1, h2⟩ := h.at_ hn
    exact ⟨b, o, e, Nat.lt_of_lt_of_le h1 hb.size, h2.on hb h1⟩⟩
theorem drop_hr {hs : List Hr} {i : Nat} (h : i < hs.length) : hs.drop i = hs.getD i (0, 0) :: hs.drop (i + 1) := by
  rw [List.drop_eq_getElem_cons h, List.getD_eq_getElem?_getD, List.getElem?_eq_getElem h]; rfl
/-- The first error. -/
def fnz : List Int → Int
  | [] => 0
  | x :: r => if x = 0 then fnz r else x
section
variable {w : World}
theorem when_ok (b : Bool) (k : Int) : Calls Tryz.prog 52 #[.bool b, .int .i64 k] w fun e w' => e = .returned (.int .i64 (if b then k else 0)) ∧ Below w.heap.size w w' := by
  cases b
  all_goals go_enter Tryz.func52, Tryz.ntmps52
  all_goals go_wp2
  all_goals go_ret
  all_goals exact ⟨rfl, bi⟩
theorem when_fact {b : Bool} {k r : Int} (hr : (if b then k else 0) = r) : Calls Tryz.prog 52 #[.bool b, .int .i64 k] w fun e w' => e = .returned (.int .i64 r) ∧ Below w.heap.size w w' := hr ▸ when_ok b k
theorem isTemp_ok (n : Int) : Calls Tryz.prog 55 #[.int .i64 n] w fun e w' => e = .returned (.bool (decide (-600 ≤ n) && decide (n ≤ 1000))) ∧ Below w.heap.size w w' := by
  go_enter Tryz.func55, Tryz.ntmps55
  go_wp2_with (go_at_call 56; (with_reducible refine mo0 (from_ok n (-600) 1000) fun w1 hb1 hc1 hf1 _ => ?_))
  go_ret
  exact ⟨rfl, bi⟩
theorem isHum_ok (n : Int) : Calls Tryz.prog 71 #[.int .i64 n] w fun e w' => e = .returned (.bool (decide (0 ≤ n) && decide (n ≤ 100))) ∧ Below w.heap.size w w' := by
  go_enter Tryz.func71, Tryz.ntmps71
  go_wp2_with (go_at_call 56; (with_reducible refine mo0 (from_ok n 0 100) fun w1 hb1 hc1 hf1 _ => ?_))
  go_ret
  exact ⟨rfl, bi⟩
variable {A : Option Addr} {n c : Nat} {zs : List Int}
theorem first_ok {r : Int} (h : Iv w A n zs) (hn : n ≤ 1000) (hr : fnz zs = r) : Calls Tryz.prog 45 #[.slice A n c] w fun e w' => e = .returned (.int .i64 r) ∧ Below w.heap.size w w' := by
  have H := qh h
  have HN := qh hn
  have HR := qh hr
  clear h hn hr
  go_enter Tryz.func45, Tryz.ntmps45
  go_wp2
  go_loopw [7] (fun u wr => ∃ (i : Nat), u = .int .i64 (i : Int) ∧ i ≤ n ∧ Below w.heap.size w wr ∧ fnz (zs.drop i) = r) (fun u _ => n - (intOf u).toNat)
  case atStart => exact ⟨0, rfl, Nat.zero_le _, bi, HR.out⟩
  case round =>
    obtain ⟨i, rfl, hin, hb, hc⟩ := hrel
    have _ := bm hb
    have hnn := HN.out
    by_cases hi : i < n
    · have p0 : decide (i < n) = true := by simpa using hi
      obtain ⟨b, o, rfl, hbl, hat⟩ := (H.out.below hb).at_ (by omega)
      have k0 := hat i hi
      rw [drop_cons (by rw [H.out.len]; exact hi)] at hc
      obtain ⟨x, hx⟩ : ∃ x, zs.getD i 0 = x := ⟨_, rfl⟩
      rw [hx] at k0 hc
      clear hat
      by_cases hx0 : x = 0
      · subst hx0
        have hc2 : fnz (zs.drop (i + 1)) = r := by
          rw [← hc]; conv => rhs; unfold fnz
          rw [if_pos rfl]
        clear hc
        go_wp2
        go_roundw
        case rel => exact ⟨i + 1, by simp, by omega, bi, hc2⟩
        case measure => simp [intOf]; omega
      · have hR : x = r := by
          rw [← hc]; unfold fnz; rw [if_neg hx0]
        subst hR
        clear hc
        go_wp2
        go_ret
        exact ⟨rfl, bi⟩
    · have : i = n := by omega
      subst this
      have p0 : decide (i < i) = false := by simp
      rw [List.drop_eq_nil_of_le (by rw [H.out.len]; exact Nat.le_refl _)] at hc
      have hR : r = 0 := hc.symm
      subst hR
      go_wp2
      go_ret
      exact ⟨rfl, bi⟩
end

theorem iv2 {W : World} {t : TypeId} {a b : Int} : Iv (W.alloc (.cells #[.int .i64 a, .int .i64 b] t)) (some ⟨W.heap.size, 0, none⟩) 2 [a, b] :=
  ⟨rfl, fun _ => ⟨_, 0, rfl, by simp, fun j hj => by
    have : j = 0 ∨ j = 1 := by omega
    rcases this with rfl | rfl <;> simp⟩⟩
theorem iv3 {W : World} {t : TypeId} {a b c : Int} : Iv (W.alloc (.cells #[.int .i64 a, .int .i64 b, .int .i64 c] t)) (some ⟨W.heap.size, 0, none⟩) 3 [a, b, c] :=
  ⟨rfl, fun _ => ⟨_, 0, rfl, by simp, fun j hj => by
    have : j = 0 ∨ j = 1 ∨ j = 2 := by omega
    rcases this with rfl | rfl | rfl <;> simp⟩⟩
theorem iv4 {W : World} {t : TypeId} {a b c d : Int} : Iv (W.alloc (.cells #[.int .i64 a, .int .i64 b, .int .i64 c, .int .i64 d] t)) (some ⟨W.heap.size, 0, none⟩) 4 [a, b, c, d] :=
  ⟨rfl, fun _ => ⟨_, 0, rfl, by simp, fun j hj => by
    have : j = 0 ∨ j = 1 ∨ j = 2 ∨ j = 3 := by omega
    rcases this with rfl | rfl | rfl | rfl <;> simp⟩⟩
def tmpB (n : Int) : Bool := decide (-600 ≤ n) && decide (n ≤ 1000)
def humB (n : Int) : Bool := decide (0 ≤ n) && decide (n ≤ 100)
section
variable {w : World}
theorem isTemp_fact {n : Int} {b : Bool} (h : tmpB n = b) : Calls Tryz.prog 55 #[.int .i64 n] w fun e w' => e = .returned (.bool b) ∧ Below w.heap.size w w' := h ▸ isTemp_ok n
theorem isHum_fact {n : Int} {b : Bool} (h : humB n = b) : Calls Tryz.prog 71 #[.int .i64 n] w fun e w' => e = .returned (.bool b) ∧ Below w.heap.size w w' := h ▸ isHum_ok n
end
def climR (c : Clim) : Bool := tmpB c.c && tmpB c.m && humB c.d && humB c.p
def climO (c : Clim) : Bool := decide (c.m < c.c) || decide (c.p < c.d)
def climE (c : Clim) : Int := if climR c then (if climO c then 11 else 0) else 3
section
variable {w : World}
theorem climate_ok (c : Clim) : Calls Tryz.prog 27 #[clv c] w fun e w' => e = .returned (.int .i64 (climE c)) ∧ Below w.heap.size w w' := by
  obtain ⟨c1, c2, c3, c4⟩ := c
  obtain ⟨r, hr⟩ : ∃ r, climE ⟨c1, c2, c3, c4⟩ = r := ⟨_, rfl⟩
  rw [hr]
  have HR := qh hr
  clear hr
  have F1 := fun w => isTemp_ok (w := w) c1
  have F2 := fun w => isTemp_ok (w := w) c2
  have F3 := fun w => isHum_ok (w := w) c3
  have F4 := fun w => isHum_ok (w := w) c4
  rw [show (decide (-600 ≤ c1) && decide (c1 ≤ 1000)) = tmpB c1 from rfl] at F1
  rw [show (decide (-600 ≤ c2) && decide (c2 ≤ 1000)) = tmpB c2 from rfl] at F2
  rw [show (decide (0 ≤ c3) && decide (c3 ≤ 100)) = humB c3 from rfl] at F3
  rw [show (decide (0 ≤ c4) && decide (c4 ≤ 100)) = humB c4 from rfl] at F4
  obtain ⟨b, hb⟩ : ∃ b, climR ⟨c1, c2, c3, c4⟩ = b := ⟨_, rfl⟩
  have HB := qh hb
  unfold climR at hb
  dsimp only at hb
  obtain ⟨b1, h1⟩ : ∃ b, tmpB c1 = b := ⟨_, rfl⟩
  obtain ⟨b2, h2⟩ : ∃ b, tmpB c2 = b := ⟨_, rfl⟩
  obtain ⟨b3, h3⟩ : ∃ b, humB c3 = b := ⟨_, rfl⟩
  obtain ⟨b4, h4⟩ : ∃ b, humB c4 = b := ⟨_, rfl⟩
  rw [h1] at F1 hb
  rw [h2] at F2 hb
  rw [h3] at F3 hb
  rw [h4] at F4 hb
  go_enter Tryz.func27, Tryz.ntmps27
  go_upto_region 1 with (fail)
  go_cut [3] (fun u wx => u = .bool b ∧ Below w.heap.size w wx ∧ w.heap.size < wx.heap.size ∧ wx.cell? ⟨w.heap.size, 0, none⟩ = some (.int .i64 c1) ∧ wx.cell? ⟨w.heap.size, 1, none⟩ = some (.int .i64 c2) ∧ wx.cell? ⟨w.heap.size, 2, none⟩ = some (.int .i64 c3) ∧ wx.cell? ⟨w.heap.size, 3, none⟩ = some (.int .i64 c4))
  case first =>
    have hq : (b1 = false ∧ b = false) ∨ (b1 = true ∧ b2 = false ∧ b = false) ∨ (b1 = true ∧ b2 = true ∧ b3 = false ∧ b = false) ∨ (b1 = true ∧ b2 = true ∧ b3 = true ∧ b4 = b) := by
      rw [← hb]
      cases b1 <;> cases b2 <;> cases b3 <;> cases b4 <;> decide
    clear hb h1 h2 h3 h4
    rcases hq with ⟨rfl, rfl⟩ | ⟨rfl, rfl, rfl⟩ | ⟨rfl, rfl, rfl, rfl⟩ | ⟨rfl, rfl, rfl, rfl⟩
    all_goals go_wp2_with (first | (go_at_call 55; (with_reducible show Calls _ _ #[.int .i64 c1] _ _); (with_reducible refine mo1 w (F1 _) (by go_size) fun w1 hb1 hc1 hf1 hz1_0 _ => ?_)) | (go_at_call 55; (with_reducible refine mo1 w (F2 _) (by go_size) fun w2 hb2 hc2 hf2 hz2_0 _ => ?_)) | (go_at_call 71; (with_reducible show Calls _ _ #[.int .i64 c3] _ _); (with_reducible refine mo1 w (F3 _) (by go_size) fun w3 hb3 hc3 hf3 hz3_0 _ => ?_)) | (go_at_call 71; (with_reducible refine mo1 w (F4 _) (by go_size) fun w4 hb4 hc4 hf4 hz4_0 _ => ?_)))
    all_goals go_meet
    all_goals refine ⟨rfl, bi, ?_, ?_, ?_, ?_, ?_⟩
    all_goals first | assumption | (simp [go_sem, *])
  case rest =>
    obtain ⟨rfl, hb0, hz0, hc0, hc1, hc2, hc3⟩ := hcut
    have _ := bm hb0
    have HO : Hid (fnz [if !b then 3 else 0, if climO ⟨c1, c2, c3, c4⟩ then 11 else 0] = r) := by
      show _ = _
      rw [← HR.out]
      unfold climE
      rw [HB.out]
      cases b <;> cases climO ⟨c1, c2, c3, c4⟩ <;> rfl
    obtain ⟨o, ho⟩ : ∃ o, climO ⟨c1, c2, c3, c4⟩ = o := ⟨_, rfl⟩
    rw [ho] at HO
    unfold climO at ho
    dsimp only at ho
    clear HR HB
    obtain ⟨k1, hk1⟩ : ∃ k, (if !b then (3 : Int) else 0) = k := ⟨_, rfl⟩
    obtain ⟨k2, hk2⟩ : ∃ k, (if o then (11 : Int) else 0) = k := ⟨_, rfl⟩
    rw [hk1, hk2] at HO
    have HK1 := qh hk1
    have HK2 := qh hk2
    clear hk1 hk2
    obtain ⟨g, hg⟩ : ∃ g, decide (c2 < c1) = g := ⟨_, rfl⟩
    rw [hg] at ho
    go_upto_region 2 with (fail)
    cases g
    · rw [Bool.false_or] at ho
      refine wp_region_T (fun w' => Below wc.heap.size wc w') [] (by kernel_rfl) ?_
      refine tb 0 (.bool b) [1] rfl (by kernel_rfl) pk rfl (by intros; go_simp) bq0 ?_
      simp only [ppq]
      refine tb 1 (.bool !b) [2] rfl (by kernel_rfl) pk rfl (by intros; go_simp) bq0 ?_
      simp only [ppq]
      refine tb 3 (.pointer (some ⟨w.heap.size, 0, none⟩)) [4] rfl (by kernel_rfl) pk rfl (by intros; go_simp) bq0 ?_
      simp only [ppq]
      refine tb 4 (.int .i64 c1) [7] rfl (by kernel_rfl) pk rfl (by intros; go_simp) bq0 ?_
      simp only [ppq]
      refine tb 5 (.pointer (some ⟨w.heap.size, 1, none⟩)) [6] rfl (by kernel_rfl) pk rfl (by intros; go_simp) bq0 ?_
      simp only [ppq]
      refine tb 6 (.int .i64 c2) [7] rfl (by kernel_rfl) pk rfl (by intros; go_simp) bq0 ?_
      simp only [ppq]
      refine tb 7 (.bool false) [8] rfl (by kernel_rfl) pk rfl (by intros; go_simp) bq0 ?_
      simp only [ppq]
      refine rd1 2 (by kernel_rfl) rfl (fun K hK => ?_)
      go_simp
      go_wp2_with (go_at_call 52; (with_reducible refine mo1 w (when_fact HK1.out) (by go_size) fun w5 hb5 hc5 hf5 hz5_0 _ => ?_))
      have sS5 := qh (bst bq0 hb5)
      refine hK.out _ _ (fun _ => sS5.out) ?_
      clear hK K
      refine tb 8 (.bool false) [15] rfl (by kernel_rfl) pk rfl (by intros; go_simp) sS5.out ?_
      simp only [ppq]
      refine tb 9 (.pointer (some ⟨w.heap.size, 2, none⟩)) [10] rfl (by kernel_rfl) pk rfl (by intros; go_simp) sS5.out ?_
      simp only [ppq]
      refine tb 10 (.int .i64 c3) [13] rfl (by kernel_rfl) pk rfl (by intros; go_simp) sS5.out ?_
      simp only [ppq]
      refine tb 11 (.pointer (some ⟨w.heap.size, 3, none⟩)) [12] rfl (by kernel_rfl) pk rfl (by intros; go_simp) sS5.out ?_
      simp only [ppq]
      refine tb 12 (.int .i64 c4) [13] rfl (by kernel_rfl) pk rfl (by intros; go_simp) sS5.out ?_
      simp only [ppq]
      refine tb 13 (.bool o) [14] rfl (by kernel_rfl) pk rfl (by intros; go_simp) sS5.out ?_
      simp only [ppq]
      refine tb 14 (.bool o) [15] rfl (by kernel_rfl) pk rfl (by intros; go_simp) sS5.out ?_
      simp only [ppq]
      refine rd1 15 (by kernel_rfl) rfl (fun K hK => ?_)
      go_simp
      go_wp2_with (go_at_call 52; (with_reducible refine mo1 w (when_fact HK2.out) (by go_size) fun w6 hb6 hc6 hf6 hz6_0 _ => ?_))
      have sS6 := qh (bst sS5.out hb6)
      refine hK.out _ _ (fun _ => sS6.out) ?_
      clear hK K
      refine rd1 16 (by kernel_rfl) rfl (fun K hK => ?_)
      go_simp
      refine hK.out _ _ (fun _ => bi) ?_
      clear hK K
      skip
      refine rd1 17 (by kernel_rfl) rfl (fun K hK => ?_)
      go_simp
      go_wp2_with (go_at_call 45; (with_reducible refine mo1 w (first_ok iv2 (by omega) HO.out) (by go_size) fun w7 hb7 hc7 hf7 hz7_0 _ => ?_))
      refine hK.out _ _ (fun _ => bi) ?_
      clear hK K
      refine rd1 18 (by kernel_rfl) rfl (fun K hK => ?_)
      go_simp
      refine hK.out _ _ (fun _ => bi) ?_
      clear hK K
      refine wpAnyT_done (by kernel_rfl) ?_ _
      go_wp2
      go_ret
      exact ⟨rfl, bi⟩
    · rw [Bool.true_or] at ho
      subst ho
      refine wp_region_T (fun w' => Below wc.heap.size wc w') [] (by kernel_rfl) ?_
      refine tb 0 (.bool b) [1] rfl (by kernel_rfl) pk rfl (by intros; go_simp) bq0 ?_
      simp only [ppq]
      refine tb 1 (.bool !b) [2] rfl (by kernel_rfl) pk rfl (by intros; go_simp) bq0 ?_
      simp only [ppq]
      refine tb 3 (.pointer (some ⟨w.heap.size, 0, none⟩)) [4] rfl (by kernel_rfl) pk rfl (by intros; go_simp) bq0 ?_
      simp only [ppq]
      refine tb 4 (.int .i64 c1) [7] rfl (by kernel_rfl) pk rfl (by intros; go_simp) bq0 ?_
      simp only [ppq]
      refine tb 5 (.pointer (some ⟨w.heap.size, 1, none⟩)) [6] rfl (by kernel_rfl) pk rfl (by intros; go_simp) bq0 ?_
      simp only [ppq]
      refine tb 6 (.int .i64 c2) [7] rfl (by kernel_rfl) pk rfl (by intros; go_simp) bq0 ?_
      simp only [ppq]
      refine tb 7 (.bool true) [8] rfl (by kernel_rfl) pk rfl (by intros; go_simp) bq0 ?_
      simp only [ppq]
      refine rd1 2 (by kernel_rfl) rfl (fun K hK => ?_)
      go_simp
      go_wp2_with (go_at_call 52; (with_reducible refine mo1 w (when_fact HK1.out) (by go_size) fun w5 hb5 hc5 hf5 hz5_0 _ => ?_))
      have sS5 := qh (bst bq0 hb5)
      refine hK.out _ _ (fun _ => sS5.out) ?_
      clear hK K
      refine tb 8 (.bool true) [15] rfl (by kernel_rfl) pk rfl (by intros; go_simp) sS5.out ?_
      simp only [ppq]
      refine ts 9 [10] rfl (by kernel_rfl) pk (by rfl) sS5.out ?_
      simp only [ppq]
      refine ts 10 [13] rfl (by kernel_rfl) pk (by rfl) sS5.out ?_
      simp only [ppq]
      refine ts 11 [12] rfl (by kernel_rfl) pk (by rfl) sS5.out ?_
      simp only [ppq]
      refine ts 12 [13] rfl (by kernel_rfl) pk (by rfl) sS5.out ?_
      simp only [ppq]
      refine ts 13 [14] rfl (by kernel_rfl) pk (by rfl) sS5.out ?_
      simp only [ppq]
      refine tb 14 (.bool true) [15] rfl (by kernel_rfl) pk rfl (by intros; go_simp) sS5.out ?_
      simp only [ppq]
      refine rd1 15 (by kernel_rfl) rfl (fun K hK => ?_)
      go_simp
      go_wp2_with (go_at_call 52; (with_reducible refine mo1 w (when_fact (r := k2) (by simpa using HK2.out)) (by go_size) fun w6 hb6 hc6 hf6 hz6_0 _ => ?_))
      have sS6 := qh (bst sS5.out hb6)
      refine hK.out _ _ (fun _ => sS6.out) ?_
      clear hK K
      refine rd1 16 (by kernel_rfl) rfl (fun K hK => ?_)
      go_simp
      refine hK.out _ _ (fun _ => bi) ?_
      clear hK K
      skip
      refine rd1 17 (by kernel_rfl) rfl (fun K hK => ?_)
      go_simp
      go_wp2_with (go_at_call 45; (with_reducible refine mo1 w (first_ok iv2 (by omega) HO.out) (by go_size) fun w7 hb7 hc7 hf7 hz7_0 _ => ?_))
      refine hK.out _ _ (fun _ => bi) ?_
      clear hK K
      refine rd1 18 (by kernel_rfl) rfl (fun K hK => ?_)
      go_simp
      refine hK.out _ _ (fun _ => bi) ?_
      clear hK K
      refine wpAnyT_done (by kernel_rfl) ?_ _
      go_wp2
      go_ret
      exact ⟨rfl, bi⟩
end

def tix : List Int → Nat → Int
  | [], _ => -1
  | h :: r, i => if tmpB h then tix r (i + 1) else (i : Int)
theorem tix_ge (l : List Int) : ∀ i : Nat, decide (0 ≤ tix l i) = l.any fun h => !tmpB h := by
  induction l with
  | nil => intro i; rfl
  | cons h r ih =>
    intro i
    unfold tix
    cases hb : tmpB h with
    | true => rw [if_pos rfl, ih (i + 1)]; simp [hb]
    | false => rw [if_neg (by simp)]; simp [hb]
section
variable {w : World}
theorem badTemp_ok (t : Int) : Calls Tryz.prog 54 #[.int .i64 t] w fun e w' => e = .returned (.bool (!tmpB t)) ∧ Below w.heap.size w w' := by
  obtain ⟨b, hb⟩ : ∃ b, tmpB t = b := ⟨_, rfl⟩
  have HB := qh hb
  rw [hb]
  clear hb
  go_enter Tryz.func54, Tryz.ntmps54
  go_wp2_with (go_at_call 55; (with_reducible refine mo0 (isTemp_fact HB.out) fun w1 hb1 hc1 hf1 _ => ?_))
  go_ret
  exact ⟨rfl, bi⟩
theorem badTemp_fact {t : Int} {r : Bool} (hr : (!tmpB t) = r) : Calls Tryz.prog 54 #[.int .i64 t] w fun e w' => e = .returned (.bool r) ∧ Below w.heap.size w w' := hr ▸ badTemp_ok t
variable {A : Option Addr} {n c : Nat} {zs : List Int}
theorem tempIx_ok {r : Int} (h : Iv w A n zs) (hn : n ≤ 100000) (hr : tix zs 0 = r) : Calls Tryz.prog 109 #[.slice A n c, .func (.func 54) #[] #[]] w fun e w' => e = .returned (.int .i64 r) ∧ Below w.heap.size w w' := by
  have H := qh h
  have HN := qh hn
  have HR := qh hr
  clear h hn hr
  go_enter Tryz.func109, Tryz.ntmps109
  go_wp2
  go_loopw [8] (fun u wr => ∃ (i : Nat), u = .int .i64 (i : Int) ∧ i ≤ n ∧ Below w.heap.size w wr ∧ tix (zs.drop i) i = r) (fun u _ => n - (intOf u).toNat)
  case atStart => exact ⟨0, rfl, Nat.zero_le _, bi, HR.out⟩
  case round =>
    obtain ⟨i, rfl, hin, hb, hc⟩ := hrel
    have _ := bm hb
    have hnn := HN.out
    by_cases hi : i < n
    · have p0 : decide (i < n) = true := by simpa using hi
      obtain ⟨b, o, rfl, hbl, hat⟩ := (H.out.below hb).at_ (by omega)
      have k0 := hat i hi
      rw [drop_cons (by rw [H.out.len]; exact hi)] at hc
      obtain ⟨t, hx⟩ : ∃ x, zs.getD i 0 = x := ⟨_, rfl⟩
      rw [hx] at k0 hc
      clear hat hx
      unfold tix at hc
      cases hq : tmpB t
      · have HQ : Hid ((!tmpB t) = true) := by show _ = _; rw [hq]; rfl
        rw [hq, if_neg (by simp)] at hc
        subst hc
        go_wp2_with (go_at_call 54; (with_reducible refine mo0 (badTemp_fact HQ.out) fun w1 hb1 hc1 hf1 _ => ?_))
        go_ret
        exact ⟨rfl, bi⟩
      · have HQ : Hid ((!tmpB t) = false) := by show _ = _; rw [hq]; rfl
        rw [hq, if_pos rfl] at hc
        go_wp2_with (go_at_call 54; (with_reducible refine mo0 (badTemp_fact HQ.out) fun w1 hb1 hc1 hf1 _ => ?_))
        go_roundw
        case rel => exact ⟨i + 1, by simp, by omega, bi, hc⟩
        case measure => simp [intOf]; omega
    · have : i = n := by omega
      subst this
      have p0 : decide (i < i) = false := by simp
      rw [List.drop_eq_nil_of_le (by rw [H.out.len]; exact Nat.le_refl _)] at hc
      have hR : r = -1 := hc.symm
      subst hR
      go_wp2
      go_ret
      exact ⟨rfl, bi⟩
theorem tempAny_ok {r : Bool} (h : Iv w A n zs) (hn : n ≤ 100000) (hr : (zs.any fun h => !tmpB h) = r) : Calls Tryz.prog 53 #[.slice A n c, .func (.func 54) #[] #[]] w fun e w' => e = .returned (.bool r) ∧ Below w.heap.size w w' := by
  obtain ⟨z, hz⟩ : ∃ z, tix zs 0 = z := ⟨_, rfl⟩
  have hq := tix_ge zs 0
  rw [hz, hr] at hq
  rw [← hq]
  have H := qh h
  have HN := qh hn
  have HZ := qh hz
  clear h hn hz hq hr
  go_enter Tryz.func53, Tryz.ntmps53
  go_wp2_with (go_at_call 109; (with_reducible refine mo0 (tempIx_ok H.out HN.out HZ.out) fun w1 hb1 hc1 hf1 _ => ?_))
  go_ret
  exact ⟨rfl, bi⟩
end

/-- A slice of rows. -/
structure Rv (w : World) (A : Option Addr) (n : Nat) (rs : List (List Int)) : Prop where
  len : rs.length = n
  at_ : 0 < n → ∃ b o, A = some ⟨b, o, none⟩ ∧ b < w.heap.size ∧ ∀ j, j < n → ∃ A' m' c', w.cell? ⟨b, o + j, none⟩ = some (.slice A' m' c') ∧ Iv w A' m' (rs.getD j [])
theorem Rv.below {w w' : World} {A : Option Addr} {n : Nat} {rs : List (List Int)} (h : Rv w A n rs) (hb : Below w.heap.size w w') : Rv w' A n rs :=
  ⟨h.len, fun hn => by
    obtain ⟨b, o, e, h1, h2⟩ := h.at_ hn
    refine ⟨b, o, e, Nat.lt_of_lt_of_le h1 hb.size, fun j hj => ?_⟩
    obtain ⟨A', m', c', h3, h4⟩ := h2 j hj
    exact ⟨A', m', c', by rw [hb.cell (p := ⟨b, o + j, none⟩) h1]; exact h3, h4.below hb⟩⟩
theorem drop_row {rs : List (List Int)} {i : Nat} (h : i < rs.length) : rs.drop i = rs.getD i [] :: rs.drop (i + 1) := by
  rw [List.drop_eq_getElem_cons h, List.getD_eq_getElem?_getD, List.getElem?_eq_getElem h]; rfl
/-- The error of a row. -/
def rowE (m : Nat) (r : List Int) : Int := fnz [if r.length = 0 then 2 else 0, if 64 < r.length then 5 else 0, if r.length ≠ m then 2 else 0, if r.any fun h => !tmpB h then 3 else 0]
def rowsE (m : Nat) : List (List Int) → Int
  | [] => 0
  | r :: l => if rowE m r = 0 then rowsE m l else rowE m r
def readE (rs : List (List Int)) : Int := if rs.length = 0 then 2 else if 1000 < rs.length then 5 else rowsE (rs.getD 0 []).length rs
section
variable {w : World} {A : Option Addr} {n c : Nat} {rs : List (List Int)}
theorem readings_ok {r : Int} (h : Rv w A n rs) (hn : n ≤ 100000) (hl : ∀ x ∈ rs, x.length ≤ 100000) (hr : readE rs = r) : Calls Tryz.prog 12 #[.slice A n c] w fun e w' => e = .returned (.int .i64 r) ∧ Below w.heap.size w w' := by
  have H := qh h
  have HN := qh hn
  have HL := qh hl
  unfold readE at hr
  rw [h.len] at hr
  by_cases h0 : n = 0
  · rw [if_pos h0] at hr
    subst hr
    subst h0
    clear h hn hl
    go_enter Tryz.func12, Tryz.ntmps12
    go_wp2_with (first | (go_at_call 52; (with_reducible show Calls _ _ #[.bool true, .int .i64 2] _ _); (with_reducible refine mo0 (when_ok _ 2) fun w1 hb1 hc1 hf1 _ => ?_)) | (go_at_call 52; (with_reducible refine mo0 (when_ok _ 5) fun w2 hb2 hc2 hf2 _ => ?_)) | (go_at_call 45; (with_reducible refine mo0 (first_ok (r := 2) iv2 (by omega) rfl) fun w3 hb3 hc3 hf3 _ => ?_)))
    go_ret
    exact ⟨rfl, bi⟩
  · rw [if_neg h0] at hr
    have p1 : ((n : Int) == 0) = false := by rw [beq_eq_false_iff_ne]; omega
    have p2 : (n == 0) = false := by rw [beq_eq_false_iff_ne]; exact h0
    by_cases hb : 1000 < n
    · rw [if_pos hb] at hr
      subst hr
      have p0 : decide (1000 < n) = true := by simpa using hb
      clear h hn hl
      go_enter Tryz.func12, Tryz.ntmps12
      go_wp2_with (first | (go_at_call 52; (with_reducible show Calls _ _ #[.bool false, .int .i64 2] _ _); (with_reducible refine mo0 (when_ok _ 2) fun w1 hb1 hc1 hf1 _ => ?_)) | (go_at_call 52; (with_reducible refine mo0 (when_ok _ 5) fun w2 hb2 hc2 hf2 _ => ?_)) | (go_at_call 45; (with_reducible refine mo0 (first_ok (r := 5) iv2 (by omega) rfl) fun w3 hb3 hc3 hf3 _ => ?_)))
      go_ret
      exact ⟨rfl, bi⟩
    · rw [if_neg hb] at hr
      have p0 : decide (1000 < n) = false := by simpa using hb
      have HR := qh hr
      have HB := qh hb
      have H0 := qh h0
      have p4 : decide ((1000 : Int) < (n : Int)) = false := decide_eq_false (by omega)
      have p5 : ¬ ((1000 : Int) < (n : Int)) := by omega
      have p6 : n ≤ 1000 := by omega
      clear h hn hl hr hb h0
      go_enter Tryz.func12, Tryz.ntmps12
      go_wp2_with (first | (go_at_call 52; (with_reducible show Calls _ _ #[.bool false, .int .i64 2] _ _); (with_reducible refine mo0 (when_ok _ 2) fun w1 hb1 hc1 hf1 _ => ?_)) | (go_at_call 52; (with_reducible refine mo0 (when_ok _ 5) fun w2 hb2 hc2 hf2 _ => ?_)) | (go_at_call 45; (with_reducible refine mo0 (first_ok (r := 0) iv2 (by omega) rfl) fun w3 hb3 hc3 hf3 _ => ?_)))
      go_loopw [23] (fun u wr => ∃ (i : Nat), u = .int .i64 (i : Int) ∧ i ≤ n ∧ Below w.heap.size w wr ∧ rowsE (rs.getD 0 []).length (rs.drop i) = r) (fun u _ => n - (intOf u).toNat)
      case atStart => exact ⟨0, rfl, Nat.zero_le _, bi, HR.out⟩
      case round =>
        obtain ⟨i, rfl, hin, hb, hc⟩ := hrel
        have _ := bm hb
        have hnn := HB.out
        by_cases hi : i < n
        · have p3 : decide (i < n) = true := by simpa using hi
          obtain ⟨b, o, rfl, hbl, hat⟩ := (H.out.below hb).at_ (by omega)
          obtain ⟨A1, m1, c1, k1, hv1⟩ := hat i hi
          obtain ⟨A0, m0, c0, k0, hv0⟩ := hat 0 (by omega)
          rw [drop_row (by rw [H.out.len]; exact hi)] at hc
          have hl1 : (rs.getD i []).length ≤ 100000 := HL.out _ (by rw [List.getD_eq_getElem?_getD, List.getElem?_eq_getElem (by rw [H.out.len]; exact hi)]; exact List.getElem_mem _)
          have HE : Hid (rowE m0 (rs.getD i []) = rowE m0 (rs.getD i [])) := rfl
          obtain ⟨R, hR⟩ : ∃ R, rs.getD i [] = R := ⟨_, rfl⟩
          have hm0 : (rs.getD 0 []).length = m0 := hv0.len
          have hm1 : R.length = m1 := by rw [← hR]; exact hv1.len
          rw [hR] at hv1 hl1 hc
          rw [hm0] at hc
          rw [hm1] at hl1
          clear hat hv0 hR HE
          obtain ⟨e1, he1⟩ : ∃ e, (if m1 = 0 then (2 : Int) else 0) = e := ⟨_, rfl⟩
          obtain ⟨e2, he2⟩ : ∃ e, (if 64 < m1 then (5 : Int) else 0) = e := ⟨_, rfl⟩
          obtain ⟨e3, he3⟩ : ∃ e, (if m1 ≠ m0 then (2 : Int) else 0) = e := ⟨_, rfl⟩
          obtain ⟨g, hg⟩ : ∃ g, (R.any fun h => !tmpB h) = g := ⟨_, rfl⟩
          obtain ⟨e4, he4⟩ : ∃ e, (if g then (3 : Int) else 0) = e := ⟨_, rfl⟩
          have hrow : rowE m0 R = fnz [e1, e2, e3, e4] := by
            unfold rowE
            rw [hm1, hg, he1, he2, he3, he4]
          obtain ⟨k, hk⟩ : ∃ k, fnz [e1, e2, e3, e4] = k := ⟨_, rfl⟩
          rw [hk] at hrow
          unfold rowsE at hc
          rw [hrow] at hc
          have HE1 : Hid ((if ((m1 : Int) == 0) then (2 : Int) else 0) = e1) := by
            show _ = _
            rw [← he1]
            by_cases q : m1 = 0 <;> simp [q]
          have HE2 : Hid ((if decide ((m1 : Int) > 64) then (5 : Int) else 0) = e2) := by
            show _ = _
            rw [← he2]
            by_cases q : 64 < m1 <;> simp [q] <;> omega
          have HE3 : Hid ((if ((m1 : Int) != (m0 : Int)) then (2 : Int) else 0) = e3) := by
            show _ = _
            rw [← he3]
            by_cases q : m1 = m0 <;> simp [q] <;> omega
          have HE4 := qh he4
          have HG := qh hg
          have HK := qh hk
          have HV := qh hv1
          have HL1 := qh hl1
          have HM0 := qh hm0
          have p7 : ¬ (n = 0) := H0.out
          rw [Nat.add_zero] at k0
          clear he1 he2 he3 he4 hg hk hv1 hl1 hm0 hm1 hrow
          obtain ⟨z1, hz1⟩ : ∃ z, ((m1 : Int) == 0) = z := ⟨_, rfl⟩
          obtain ⟨z2, hz2⟩ : ∃ z, decide ((m1 : Int) > 64) = z := ⟨_, rfl⟩
          obtain ⟨z3, hz3⟩ : ∃ z, ((m1 : Int) != (m0 : Int)) = z := ⟨_, rfl⟩
          rw [hz1] at HE1
          rw [hz2] at HE2
          rw [hz3] at HE3
          by_cases hk0 : k = 0
          · rw [if_pos hk0] at hc
            subst hk0
            go_upto_region 8 with ((go_at_call 53; (with_reducible refine mo0 (tempAny_ok HV.out HL1.out HG.out) fun w1 hb1 hc1 hf1 _ => ?_)))
            have kk0 : w1.cell? ⟨b, o, none⟩ = some (.slice A0 m0 c0) := by rw [hc1 b o hbl]; exact k0
            have zb : b < w1.heap.size := Nat.lt_of_lt_of_le hbl hb1.size
            refine wp_region_T (fun w' => Below w1.heap.size w1 w') [] (by kernel_rfl) ?_
            refine tb 0 (.slice A1 m1 c1) [1] rfl (by kernel_rfl) pk rfl (by intros; go_simp) bq0 ?_
            simp only [ppq]
            refine tb 1 (.int .i64 (m1 : Int)) [2] rfl (by kernel_rfl) pk rfl (by intros; go_simp) bq0 ?_
            simp only [ppq]
            refine tb 2 (.bool z1) [3] rfl (by kernel_rfl) pk rfl (by intros; go_simp) bq0 ?_
            simp only [ppq]
            refine tb 4 (.slice A1 m1 c1) [5] rfl (by kernel_rfl) pk rfl (by intros; go_simp) bq0 ?_
            simp only [ppq]
            refine tb 5 (.int .i64 (m1 : Int)) [6] rfl (by kernel_rfl) pk rfl (by intros; go_simp) bq0 ?_
            simp only [ppq]
            refine tb 6 (.bool z2) [7] rfl (by kernel_rfl) pk rfl (by intros; go_simp) bq0 ?_
            simp only [ppq]
            refine tb 8 (.slice A1 m1 c1) [9] rfl (by kernel_rfl) pk rfl (by intros; go_simp) bq0 ?_
            simp only [ppq]
            refine tb 9 (.int .i64 (m1 : Int)) [14] rfl (by kernel_rfl) pk rfl (by intros; go_simp) bq0 ?_
            simp only [ppq]
            refine tb 10 (.slice (some ⟨b, o, none⟩) n c) [11] rfl (by kernel_rfl) pk rfl (by intros; go_simp) bq0 ?_
            simp only [ppq]
            refine tb 11 (.pointer (some ⟨b, o, none⟩)) [12] rfl (by kernel_rfl) pk rfl (by intros; go_simp) bq0 ?_
            simp only [ppq]
            refine tb 12 (.slice A0 m0 c0) [13] rfl (by kernel_rfl) pk rfl (by intros; go_simp) bq0 ?_
            simp only [ppq]
            refine tb 13 (.int .i64 (m0 : Int)) [14] rfl (by kernel_rfl) pk rfl (by intros; go_simp) bq0 ?_
            simp only [ppq]
            refine tb 14 (.bool z3) [15] rfl (by kernel_rfl) pk rfl (by intros; go_simp) bq0 ?_
            simp only [ppq]
            refine tb 16 (.bool g) [17] rfl (by kernel_rfl) pk rfl (by intros; go_simp) bq0 ?_
            simp only [ppq]
            refine rd1 3 (by kernel_rfl) rfl (fun K hK => ?_)
            go_simp
            go_wp2_with (go_at_call 52; (with_reducible refine mo0 (when_fact HE1.out) fun w11 hb11 hc11 hf11 _ => ?_))
            have sS11 := qh (bst bq0 hb11)
            refine hK.out _ _ (fun _ => sS11.out) ?_
            clear hK K
            refine rd1 7 (by kernel_rfl) rfl (fun K hK => ?_)
            go_simp
            go_wp2_with (go_at_call 52; (with_reducible refine mo0 (when_fact HE2.out) fun w12 hb12 hc12 hf12 _ => ?_))
            have sS12 := qh (bst sS11.out hb12)
            refine hK.out _ _ (fun _ => sS12.out) ?_
            clear hK K
            refine rd1 15 (by kernel_rfl) rfl (fun K hK => ?_)
            go_simp
            go_wp2_with (go_at_call 52; (with_reducible refine mo0 (when_fact HE3.out) fun w13 hb13 hc13 hf13 _ => ?_))
            have sS13 := qh (bst sS12.out hb13)
            refine hK.out _ _ (fun _ => sS13.out) ?_
            clear hK K
            refine rd1 17 (by kernel_rfl) rfl (fun K hK => ?_)
            go_simp
            go_wp2_with (go_at_call 52; (with_reducible refine mo0 (when_fact HE4.out) fun w14 hb14 hc14 hf14 _ => ?_))
            have sS14 := qh (bst sS13.out hb14)
            refine hK.out _ _ (fun _ => sS14.out) ?_
            clear hK K
            refine rd1 18 (by kernel_rfl) rfl (fun K hK => ?_)
            go_simp
            refine hK.out _ _ (fun _ => bi) ?_
            clear hK K
            skip
            refine rd1 19 (by kernel_rfl) rfl (fun K hK => ?_)
            go_simp
            go_wp2_with (go_at_call 45; (with_reducible refine mo0 (first_ok (r := 0) iv4 (by omega) HK.out) fun w15 hb15 hc15 hf15 _ => ?_))
            refine hK.out _ _ (fun _ => bi) ?_
            clear hK K
            refine rd1 20 (by kernel_rfl) rfl (fun K hK => ?_)
            go_simp
            refine hK.out _ _ (fun _ => bi) ?_
            clear hK K
            refine wpAnyT_done (by kernel_rfl) ?_ _
            go_wp2
            go_roundw
            case rel => exact ⟨i + 1, by simp, by omega, bi, by rw [HM0.out]; exact hc⟩
            case measure => simp [intOf]; omega
          · rw [if_neg hk0] at hc
            subst hc
            have q1 : (k != 0) = true := by rw [bne_iff_ne]; exact hk0
            go_upto_region 8 with ((go_at_call 53; (with_reducible refine mo0 (tempAny_ok HV.out HL1.out HG.out) fun w1 hb1 hc1 hf1 _ => ?_)))
            have kk0 : w1.cell? ⟨b, o, none⟩ = some (.slice A0 m0 c0) := by rw [hc1 b o hbl]; exact k0
            have zb : b < w1.heap.size := Nat.lt_of_lt_of_le hbl hb1.size
            refine wp_region_T (fun w' => Below w1.heap.size w1 w') [] (by kernel_rfl) ?_
            refine tb 0 (.slice A1 m1 c1) [1] rfl (by kernel_rfl) pk rfl (by intros; go_simp) bq0 ?_
            simp only [ppq]
            refine tb 1 (.int .i64 (m1 : Int)) [2] rfl (by kernel_rfl) pk rfl (by intros; go_simp) bq0 ?_
            simp only [ppq]
            refine tb 2 (.bool z1) [3] rfl (by kernel_rfl) pk rfl (by intros; go_simp) bq0 ?_
            simp only [ppq]
            refine tb 4 (.slice A1 m1 c1) [5] rfl (by kernel_rfl) pk rfl (by intros; go_simp) bq0 ?_
            simp only [ppq]
            refine tb 5 (.int .i64 (m1 : Int)) [6] rfl (by kernel_rfl) pk rfl (by intros; go_simp) bq0 ?_
            simp only [ppq]
            refine tb 6 (.bool z2) [7] rfl (by kernel_rfl) pk rfl (by intros; go_simp) bq0 ?_
            simp only [ppq]
            refine tb 8 (.slice A1 m1 c1) [9] rfl (by kernel_rfl) pk rfl (by intros; go_simp) bq0 ?_
            simp only [ppq]
            refine tb 9 (.int .i64 (m1 : Int)) [14] rfl (by kernel_rfl) pk rfl (by intros; go_simp) bq0 ?_
            simp only [ppq]
            refine tb 10 (.slice (some ⟨b, o, none⟩) n c) [11] rfl (by kernel_rfl) pk rfl (by intros; go_simp) bq0 ?_
            simp only [ppq]
            refine tb 11 (.pointer (some ⟨b, o, none⟩)) [12] rfl (by kernel_rfl) pk rfl (by intros; go_simp) bq0 ?_
            simp only [ppq]
            refine tb 12 (.slice A0 m0 c0) [13] rfl (by kernel_rfl) pk rfl (by intros; go_simp) bq0 ?_
            simp only [ppq]
            refine tb 13 (.int .i64 (m0 : Int)) [14] rfl (by kernel_rfl) pk rfl (by intros; go_simp) bq0 ?_
            simp only [ppq]
            refine tb 14 (.bool z3) [15] rfl (by kernel_rfl) pk rfl (by intros; go_simp) bq0 ?_
            simp only [ppq]
            refine tb 16 (.bool g) [17] rfl (by kernel_rfl) pk rfl (by intros; go_simp) bq0 ?_
            simp only [ppq]
            refine rd1 3 (by kernel_rfl) rfl (fun K hK => ?_)
            go_simp
            go_wp2_with (go_at_call 52; (with_reducible refine mo0 (when_fact HE1.out) fun w11 hb11 hc11 hf11 _ => ?_))
            have sS11 := qh (bst bq0 hb11)
            refine hK.out _ _ (fun _ => sS11.out) ?_
            clear hK K
            refine rd1 7 (by kernel_rfl) rfl (fun K hK => ?_)
            go_simp
            go_wp2_with (go_at_call 52; (with_reducible refine mo0 (when_fact HE2.out) fun w12 hb12 hc12 hf12 _ => ?_))
            have sS12 := qh (bst sS11.out hb12)
            refine hK.out _ _ (fun _ => sS12.out) ?_
            clear hK K
            refine rd1 15 (by kernel_rfl) rfl (fun K hK => ?_)
            go_simp
            go_wp2_with (go_at_call 52; (with_reducible refine mo0 (when_fact HE3.out) fun w13 hb13 hc13 hf13 _ => ?_))
            have sS13 := qh (bst sS12.out hb13)
            refine hK.out _ _ (fun _ => sS13.out) ?_
            clear hK K
            refine rd1 17 (by kernel_rfl) rfl (fun K hK => ?_)
            go_simp
            go_wp2_with (go_at_call 52; (with_reducible refine mo0 (when_fact HE4.out) fun w14 hb14 hc14 hf14 _ => ?_))
            have sS14 := qh (bst sS13.out hb14)
            refine hK.out _ _ (fun _ => sS14.out) ?_
            clear hK K
            refine rd1 18 (by kernel_rfl) rfl (fun K hK => ?_)
            go_simp
            refine hK.out _ _ (fun _ => bi) ?_
            clear hK K
            skip
            refine rd1 19 (by kernel_rfl) rfl (fun K hK => ?_)
            go_simp
            go_wp2_with (go_at_call 45; (with_reducible refine mo0 (first_ok (r := k) iv4 (by omega) HK.out) fun w15 hb15 hc15 hf15 _ => ?_))
            refine hK.out _ _ (fun _ => bi) ?_
            clear hK K
            refine rd1 20 (by kernel_rfl) rfl (fun K hK => ?_)
            go_simp
            refine hK.out _ _ (fun _ => bi) ?_
            clear hK K
            refine wpAnyT_done (by kernel_rfl) ?_ _
            go_wp2
            go_ret
            exact ⟨rfl, bi⟩
        · have : i = n := by omega
          subst this
          have p3 : decide (i < i) = false := by simp
          rw [List.drop_eq_nil_of_le (by rw [H.out.len]; exact Nat.le_refl _)] at hc
          have hR : r = 0 := hc.symm
          subst hR
          go_wp2
          go_ret
          exact ⟨rfl, bi⟩
end

def inB (n a b : Int) : Bool := decide (a ≤ n) && decide (n ≤ b)
/-- A watch: above, rise, within, over. -/
structure Wt where
  a : Int
  r : Int
  i : Int
  o : Int
abbrev wtv (x : Wt) : Value := .agg #[.int .i64 x.a, .int .i64 x.r, .int .i64 x.i, .int .i64 x.o]
def watchB (x : Wt) : Bool := tmpB x.a && (inB x.r 1 2000 && (inB x.o 1 2000 && inB x.i 1 1000))
def watchE (x : Wt) : Int := if watchB x then 0 else 3
section
variable {w : World}
theorem from_fact {n a b : Int} {r : Bool} (h : inB n a b = r) : Calls Tryz.prog 56 #[.int .i64 n, .int .i64 a, .int .i64 b] w fun e w' => e = .returned (.bool r) ∧ Below w.heap.size w w' := by
  have := from_ok (w := w) n a b
  rw [show (decide (a ≤ n) && decide (n ≤ b)) = r from h] at this
  exact this
theorem rwithin_ok {n a b : Int} {r : Bool} (h : inB n a b = r) : Calls Tryz.prog 51 #[.int .i64 n, .int .i64 a, .int .i64 b] w fun e w' => e = .returned (.bool r) ∧ Below w.heap.size w w' := by
  subst h
  go_enter Tryz.func51, Tryz.ntmps51
  by_cases h1 : a ≤ n <;> by_cases h2 : n ≤ b
  all_goals go_wp2
  all_goals go_ret
  all_goals exact ⟨by simp [inB, h1, h2], bi⟩
theorem watch_ok (x : Wt) : Calls Tryz.prog 13 #[wtv x] w fun e w' => e = .returned (.int .i64 (watchE x)) ∧ Below w.heap.size w w' := by
  obtain ⟨c1, c2, c3, c4⟩ := x
  obtain ⟨b1, h1⟩ : ∃ b, tmpB c1 = b := ⟨_, rfl⟩
  obtain ⟨b2, h2⟩ : ∃ b, inB c2 1 2000 = b := ⟨_, rfl⟩
  obtain ⟨b3, h3⟩ : ∃ b, inB c4 1 2000 = b := ⟨_, rfl⟩
  obtain ⟨b4, h4⟩ : ∃ b, inB c3 1 1000 = b := ⟨_, rfl⟩
  have F1 := qh (fun W => isTemp_fact (w := W) h1)
  have F2 := qh (fun W => from_fact (w := W) h2)
  have F3 := qh (fun W => from_fact (w := W) h3)
  have F4 := qh (fun W => from_fact (w := W) h4)
  obtain ⟨k, hk⟩ : ∃ k, watchE ⟨c1, c2, c3, c4⟩ = k := ⟨_, rfl⟩
  rw [hk]
  unfold watchE watchB at hk
  dsimp only at hk
  rw [h1, h2, h3, h4] at hk
  clear h1 h2 h3 h4
  go_enter Tryz.func13, Tryz.ntmps13
  cases b1 with
  | false =>
    obtain rfl : 3 = k := hk
    go_wp2_with (first | (go_at_call 55; (with_reducible refine mo1 w (F1.out _) (by go_size) fun w1 hb1 hc1 hf1 hz1_0 _ => ?_)) | (go_at_call 52; (with_reducible refine mo1 w (when_ok _ _) (by go_size) fun w5 hb5 hc5 hf5 hz5_0 _ => ?_)))
    go_ret
    exact ⟨rfl, bi⟩
  | true =>
    cases b2 with
    | false =>
      obtain rfl : 3 = k := hk
      go_wp2_with (first | (go_at_call 55; (with_reducible refine mo1 w (F1.out _) (by go_size) fun w1 hb1 hc1 hf1 hz1_0 _ => ?_)) | (go_at_call 56; (with_reducible refine mo1 w (F2.out _) (by go_size) fun w2 hb2 hc2 hf2 hz2_0 _ => ?_)) | (go_at_call 52; (with_reducible refine mo1 w (when_ok _ _) (by go_size) fun w5 hb5 hc5 hf5 hz5_0 _ => ?_)))
      go_ret
      exact ⟨rfl, bi⟩
    | true =>
      cases b3 with
      | false =>
        obtain rfl : 3 = k := hk
        go_wp2_with (first | (go_at_call 55; (with_reducible refine mo1 w (F1.out _) (by go_size) fun w1 hb1 hc1 hf1 hz1_0 _ => ?_)) | (go_at_call 56; (with_reducible show Calls _ _ #[.int .i64 c2, .int .i64 1, .int .i64 2000] _ _); (with_reducible refine mo1 w (F2.out _) (by go_size) fun w2 hb2 hc2 hf2 hz2_0 _ => ?_)) | (go_at_call 56; (with_reducible show Calls _ _ #[.int .i64 c4, .int .i64 1, .int .i64 2000] _ _); (with_reducible refine mo1 w (F3.out _) (by go_size) fun w3 hb3 hc3 hf3 hz3_0 _ => ?_)) | (go_at_call 52; (with_reducible refine mo1 w (when_ok _ _) (by go_size) fun w5 hb5 hc5 hf5 hz5_0 _ => ?_)))
        go_ret
        exact ⟨rfl, bi⟩
      | true =>
        cases b4 with
        | false =>
          obtain rfl : 3 = k := hk
          go_wp2_with (first | (go_at_call 55; (with_reducible refine mo1 w (F1.out _) (by go_size) fun w1 hb1 hc1 hf1 hz1_0 _ => ?_)) | (go_at_call 56; (with_reducible show Calls _ _ #[.int .i64 c2, .int .i64 1, .int .i64 2000] _ _); (with_reducible refine mo1 w (F2.out _) (by go_size) fun w2 hb2 hc2 hf2 hz2_0 _ => ?_)) | (go_at_call 56; (with_reducible show Calls _ _ #[.int .i64 c4, .int .i64 1, .int .i64 2000] _ _); (with_reducible refine mo1 w (F3.out _) (by go_size) fun w3 hb3 hc3 hf3 hz3_0 _ => ?_)) | (go_at_call 56; (with_reducible show Calls _ _ #[.int .i64 c3, .int .i64 1, .int .i64 1000] _ _); (with_reducible refine mo1 w (F4.out _) (by go_size) fun w4 hb4 hc4 hf4 hz4_0 _ => ?_)) | (go_at_call 52; (with_reducible refine mo1 w (when_ok _ _) (by go_size) fun w5 hb5 hc5 hf5 hz5_0 _ => ?_)))
          go_ret
          exact ⟨rfl, bi⟩
        | true =>
          obtain rfl : 0 = k := hk
          go_wp2_with (first | (go_at_call 55; (with_reducible refine mo1 w (F1.out _) (by go_size) fun w1 hb1 hc1 hf1 hz1_0 _ => ?_)) | (go_at_call 56; (with_reducible show Calls _ _ #[.int .i64 c2, .int .i64 1, .int .i64 2000] _ _); (with_reducible refine mo1 w (F2.out _) (by go_size) fun w2 hb2 hc2 hf2 hz2_0 _ => ?_)) | (go_at_call 56; (with_reducible show Calls _ _ #[.int .i64 c4, .int .i64 1, .int .i64 2000] _ _); (with_reducible refine mo1 w (F3.out _) (by go_size) fun w3 hb3 hc3 hf3 hz3_0 _ => ?_)) | (go_at_call 56; (with_reducible show Calls _ _ #[.int .i64 c3, .int .i64 1, .int .i64 1000] _ _); (with_reducible refine mo1 w (F4.out _) (by go_size) fun w4 hb4 hc4 hf4 hz4_0 _ => ?_)) | (go_at_call 52; (with_reducible refine mo1 w (when_ok _ _) (by go_size) fun w5 hb5 hc5 hf5 hz5_0 _ => ?_)))
          go_ret
          exact ⟨rfl, bi⟩
end

section
variable {w : World}
theorem rwatch_ok (x : Wt) : Calls Tryz.prog 14 #[wtv x] w fun e w' => e = .returned (.int .i64 (watchE x)) ∧ Below w.heap.size w w' := by
  obtain ⟨c1, c2, c3, c4⟩ := x
  obtain ⟨b1, h1⟩ : ∃ b, tmpB c1 = b := ⟨_, rfl⟩
  obtain ⟨b2, h2⟩ : ∃ b, inB c2 1 2000 = b := ⟨_, rfl⟩
  obtain ⟨b3, h3⟩ : ∃ b, inB c4 1 2000 = b := ⟨_, rfl⟩
  obtain ⟨b4, h4⟩ : ∃ b, inB c3 1 1000 = b := ⟨_, rfl⟩
  have F1 := qh (fun W => rwithin_ok (w := W) (n := c1) (a := -600) (b := 1000) h1)
  have F2 := qh (fun W => rwithin_ok (w := W) h2)
  have F3 := qh (fun W => rwithin_ok (w := W) h3)
  have F4 := qh (fun W => rwithin_ok (w := W) h4)
  obtain ⟨k, hk⟩ : ∃ k, watchE ⟨c1, c2, c3, c4⟩ = k := ⟨_, rfl⟩
  rw [hk]
  unfold watchE watchB at hk
  dsimp only at hk
  rw [h1, h2, h3, h4] at hk
  clear h1 h2 h3 h4
  go_enter Tryz.func14, Tryz.ntmps14
  have hq : (b1 = false ∧ k = 3) ∨ (b1 = true ∧ b2 = false ∧ k = 3) ∨ (b1 = true ∧ b2 = true ∧ b4 = false ∧ k = 3) ∨ (b1 = true ∧ b2 = true ∧ b4 = true ∧ b3 = false ∧ k = 3) ∨ (b1 = true ∧ b2 = true ∧ b4 = true ∧ b3 = true ∧ k = 0) := by
    rw [← hk]
    cases b1 <;> cases b2 <;> cases b3 <;> cases b4 <;> decide
  clear hk
  rcases hq with ⟨rfl, rfl⟩ | ⟨rfl, rfl, rfl⟩ | ⟨rfl, rfl, rfl, rfl⟩ | ⟨rfl, rfl, rfl, rfl, rfl⟩ | ⟨rfl, rfl, rfl, rfl, rfl⟩
  all_goals go_wp2_with (first | (go_at_call 51; (with_reducible show Calls _ _ #[.int .i64 c1, .int .i64 (-600), .int .i64 1000] _ _); (with_reducible refine mo1 w (F1.out _) (by go_size) fun w1 hb1 hc1 hf1 hz1_0 _ => ?_)) | (go_at_call 51; (with_reducible show Calls _ _ #[.int .i64 c2, .int .i64 1, .int .i64 2000] _ _); (with_reducible refine mo1 w (F2.out _) (by go_size) fun w2 hb2 hc2 hf2 hz2_0 _ => ?_)) | (go_at_call 51; (with_reducible show Calls _ _ #[.int .i64 c3, .int .i64 1, .int .i64 1000] _ _); (with_reducible refine mo1 w (F4.out _) (by go_size) fun w4 hb4 hc4 hf4 hz4_0 _ => ?_)) | (go_at_call 51; (with_reducible show Calls _ _ #[.int .i64 c4, .int .i64 1, .int .i64 2000] _ _); (with_reducible refine mo1 w (F3.out _) (by go_size) fun w3 hb3 hc3 hf3 hz3_0 _ => ?_)))
  all_goals go_ret
  all_goals exact ⟨rfl, bi⟩
variable {A : Option Addr} {n c : Nat} {rs : List (List Int)}
theorem rowsE_cons {m : Nat} {r : List Int} {l : List (List Int)} : rowsE m (r :: l) = if rowE m r = 0 then rowsE m l else rowE m r := rfl
theorem any_drop {zs : List Int} {i : Nat} (h : i < zs.length) : (zs.drop i).any (fun h => !tmpB h) = ((!tmpB (zs.getD i 0)) || (zs.drop (i + 1)).any fun h => !tmpB h) := by
  rw [drop_cons h]; rfl
theorem rowE_eq (m : Nat) (r : List Int) : rowE m r = if r.length = 0 then 2 else if 64 < r.length then 5 else if r.length ≠ m then 2 else if (r.any fun h => !tmpB h) = true then 3 else 0 := by
  unfold rowE fnz fnz fnz fnz fnz
  by_cases h1 : r.length = 0
  · simp [h1]
  · by_cases h2 : 64 < r.length
    · simp [h1, h2]
    · by_cases h3 : r.length = m
      · cases h4 : (r.any fun h => !tmpB h) <;> simp [h1, h2, h3] <;> omega
      · simp [h1, h2, h3]
theorem rread_go {k : Int} (h : Rv w A n rs) (h0 : 0 < n) (hn : n ≤ 1000) (hl : ∀ r ∈ rs, r.length ≤ 100000) (hk : rowsE (rs.getD 0 []).length rs = k) : Calls Tryz.prog 11 #[.slice A n c] w fun e w' => e = .returned (.int .i64 k) ∧ Below w.heap.size w w' := by
  have q0 : ((n : Int) == 0) = false := by rw [beq_eq_false_iff_ne]; omega
  have q1 : decide ((1000 : Int) < (n : Int)) = false := by rw [decide_eq_false_iff_not]; omega
  have H := qh h
  have HN := qh (And.intro h0 hn)
  have HK := qh hk
  have HL : Hid (∀ i, i < n → (rs.getD i []).length ≤ 100000) := qh (fun i hi => by
    have hil : i < rs.length := by rw [h.len]; exact hi
    rw [List.getD_eq_getElem?_getD, List.getElem?_eq_getElem hil]; exact hl _ (List.getElem_mem hil))
  obtain ⟨m, hm⟩ : ∃ m, (rs.getD 0 []).length = m := ⟨_, rfl⟩
  have HM := qh hm
  rw [hm] at HK
  clear h h0 hn hk hm hl
  go_enter Tryz.func11, Tryz.ntmps11
  go_wp2
  go_loopw [3] (fun u wr => ∃ (i : Nat), u = .int .i64 (i : Int) ∧ i ≤ n ∧ Below w.heap.size w wr ∧ rowsE m (rs.drop i) = k) (fun u _ => n - (intOf u).toNat)
  case atStart => exact ⟨0, rfl, Nat.zero_le _, bi, HK.out⟩
  case round =>
    obtain ⟨i, rfl, hin, hb, hc⟩ := hrel
    have _ := bm hb
    rename World => wo
    have HC := qh hc
    have hnn := HN.out
    clear hc
    by_cases hi : i < n
    · have p0 : decide (i < n) = true := by simpa using hi
      have HI := qh hi
      obtain ⟨b, o, rfl, hbl, hat⟩ := H.out.at_ hnn.1
      obtain ⟨B, l, e, k0, kv⟩ := hat i hi
      obtain ⟨B1, l1, e1, k1, kv1⟩ := hat 0 hnn.1
      have hl1 := kv1.len
      rw [HM.out] at hl1
      subst hl1
      rw [Nat.add_zero] at k1
      have hl := kv.len
      have hc := HC.out
      have hL := HL.out i hi
      rw [drop_row (by rw [H.out.len]; exact hi), rowsE_cons] at hc
      obtain ⟨zs, hzs⟩ : ∃ z, rs.getD i [] = z := ⟨_, rfl⟩
      rw [hzs] at kv hl hc hL
      subst hl
      have KV := qh (And.intro k0 kv)
      replace k0 := cell_on hb k0
      replace k1 := cell_on hb k1
      have zb : b < wo.heap.size := Nat.lt_of_lt_of_le hbl hb.size
      have hm9 := HN.out
      clear hat kv kv1 hzs
      by_cases h1 : zs.length = 0
      · rw [rowE_eq, if_pos h1, if_neg (by omega)] at hc
        subst hc
        have p1 : ((zs.length : Int) == 0) = true := by rw [h1]; rfl
        have p2 : (zs.length == 0) = true := by rw [h1]; rfl
        clear h1
        go_wp2
        go_ret
        exact ⟨rfl, bi⟩
      · have p1 : ((zs.length : Int) == 0) = false := by rw [beq_eq_false_iff_ne]; omega
        have p2 : (zs.length == 0) = false := by rw [beq_eq_false_iff_ne]; exact h1
        by_cases h2 : 64 < zs.length
        · rw [rowE_eq, if_neg h1, if_pos h2, if_neg (by omega)] at hc
          subst hc
          have p3 : decide ((64 : Int) < (zs.length : Int)) = true := by rw [decide_eq_true_iff]; omega
          clear h1 h2
          go_wp2
          go_ret
          exact ⟨rfl, bi⟩
        · have p3 : decide ((64 : Int) < (zs.length : Int)) = false := by rw [decide_eq_false_iff_not]; omega
          rw [rowE_eq, if_neg h1, if_neg h2] at hc
          obtain ⟨g, hg⟩ : ∃ g, ((zs.length : Int) != (m : Int)) = g := ⟨_, rfl⟩
          have hg2 : decide (zs.length ≠ m) = g := by rw [← hg]; by_cases e : zs.length = m <;> simp [e] <;> omega
          have hx0 := hnn.1
          clear h1
          go_upto_region 12 with (fail)
          refine wp_region_T (fun w' => Below wo.heap.size wo w') [] (by kernel_rfl) ?_
          refine tb 0 (.slice (some ⟨b, o, none⟩) n c) [] rfl (by kernel_rfl) pk rfl (by intros; go_simp) bq0 ?_
          simp only [ppq]
          refine tb 1 (.int .i64 (i : Int)) [] rfl (by kernel_rfl) pk rfl (by intros; go_simp) bq0 ?_
          simp only [ppq]
          refine tb 2 (.pointer (some ⟨b, o + i, none⟩)) [] rfl (by kernel_rfl) pk rfl (by intros; go_simp) bq0 ?_
          simp only [ppq]
          refine tb 3 (.slice B zs.length e) [] rfl (by kernel_rfl) pk rfl (by intros; go_simp) bq0 ?_
          simp only [ppq]
          refine tb 4 (.int .i64 (zs.length : Int)) [] rfl (by kernel_rfl) pk rfl (by intros; go_simp) bq0 ?_
          simp only [ppq]
          refine tb 5 (.slice (some ⟨b, o, none⟩) n c) [] rfl (by kernel_rfl) pk rfl (by intros; go_simp) bq0 ?_
          simp only [ppq]
          refine tb 6 (.pointer (some ⟨b, o, none⟩)) [] rfl (by kernel_rfl) pk rfl (by intros; go_simp) bq0 ?_
          simp only [ppq]
          refine tb 7 (.slice B1 m e1) [] rfl (by kernel_rfl) pk rfl (by intros; go_simp) bq0 ?_
          simp only [ppq]
          refine tb 8 (.int .i64 (m : Int)) [] rfl (by kernel_rfl) pk rfl (by intros; go_simp) bq0 ?_
          simp only [ppq]
          refine rd1 9 (by kernel_rfl) rfl (fun K hK => ?_)
          go_simp
          refine hK.out _ _ (fun _ => bi) ?_
          clear hK K
          refine wpAnyT_done (by kernel_rfl) ?_ _
          cases g
          · have hgz : ¬ zs.length ≠ m := by simpa using hg2
            rw [if_neg hgz] at hc
            have HC2 := qh hc
            have hz64 : zs.length ≤ 64 := by omega
            clear hg hg2 hgz hc h2
            obtain ⟨G, hG⟩ : ∃ G, (zs.any fun h => !tmpB h) = G := ⟨_, rfl⟩
            rw [hG] at HC2
            have HG := qh hG
            clear hG
            go_wp2
            go_loopw [4] (fun u wr => ∃ (j : Nat), u = .int .i64 (j : Int) ∧ j ≤ zs.length ∧ Below w.heap.size w wr ∧ ((zs.drop j).any fun h => !tmpB h) = G) (fun u _ => zs.length - (intOf u).toNat)
            case atStart => exact ⟨0, rfl, Nat.zero_le _, bi, HG.out⟩
            case round =>
              obtain ⟨j, rfl, hjl, hbo, hj⟩ := hrel
              have _ := bm hbo
              have HJ := qh hj
              have k0 := cell_on hbo KV.out.1
              have hii := HI.out
              clear hj hb
              by_cases hjz : j < zs.length
              · have p6 : decide (j < zs.length) = true := by simpa using hjz
                have HJZ := qh hjz
                have hj := HJ.out
                rw [any_drop hjz] at hj
                obtain ⟨b', o', rfl, hbl', hat'⟩ := (KV.out.2.below hbo).at_ (by omega)
                have x0 := hat' j hjz
                obtain ⟨t, ht⟩ : ∃ t, zs.getD j 0 = t := ⟨_, rfl⟩
                rw [ht] at x0 hj
                obtain ⟨f, hf⟩ : ∃ f, tmpB t = f := ⟨_, rfl⟩
                have HF := qh (fun W => rwithin_ok (w := W) (n := t) (a := -600) (b := 1000) hf)
                rw [hf] at hj
                clear hat' ht hf
                cases f
                · obtain rfl : true = G := hj
                  have hk := HC2.out
                  rw [if_pos rfl, if_neg (by decide)] at hk
                  have hk3 : (3 : Int) = k := hk
                  subst hk3
                  clear hk
                  go_wp2_with (go_at_call 51; (with_reducible refine mo0 (HF.out _) fun w1 hb1 hc1 hf1 _ => ?_))
                  go_ret
                  exact ⟨rfl, bi⟩
                · have HJ2 := qh hj
                  clear hj
                  go_wp2_with (go_at_call 51; (with_reducible refine mo0 (HF.out _) fun w1 hb1 hc1 hf1 _ => ?_))
                  exact ⟨⟨j + 1, by simp, HJZ.out, bi, by simpa using HJ2.out⟩, by have := HJZ.out; simp [intOf]; omega⟩
              · have p6 : decide (j < zs.length) = false := by simpa using hjz
                have hj := HJ.out
                rw [List.drop_eq_nil_of_le (by omega)] at hj
                obtain rfl : false = G := hj
                have hk := HC2.out
                have HK3 : Hid (rowsE m (rs.drop (i + 1)) = k) := qh (by simpa using hk)
                clear hjz hjl hk HC2 HG
                go_wp2
                go_roundw
                case rel => exact ⟨i + 1, by simp, HI.out, hbo, HK3.out⟩
                case measure => have := HI.out; simp [intOf]; omega
          · have hgz : zs.length ≠ m := by simpa using hg2
            rw [if_pos hgz, if_neg (by omega)] at hc
            subst hc
            clear hg hg2 hgz h2
            go_wp2
            go_ret
            exact ⟨rfl, bi⟩
    · have p0 : decide (i < n) = false := by simpa using hi
      have hc := HC.out
      rw [List.drop_eq_nil_of_le (by rw [H.out.len]; omega)] at hc
      obtain rfl : (0 : Int) = k := hc
      clear hi hin HC HK
      go_wp2
      go_ret
      exact ⟨rfl, bi⟩
theorem rread_none : Calls Tryz.prog 11 #[.slice A 0 c] w fun e w' => e = .returned (.int .i64 2) ∧ Below w.heap.size w w' := by
  go_enter Tryz.func11, Tryz.ntmps11
  go_wp2
  go_ret
  exact ⟨rfl, bi⟩
theorem rread_many (hn : 1000 < n) : Calls Tryz.prog 11 #[.slice A n c] w fun e w' => e = .returned (.int .i64 5) ∧ Below w.heap.size w w' := by
  have q0 : ((n : Int) == 0) = false := by rw [beq_eq_false_iff_ne]; omega
  have q1 : decide ((1000 : Int) < (n : Int)) = true := by rw [decide_eq_true_iff]; omega
  go_enter Tryz.func11, Tryz.ntmps11
  go_wp2
  go_ret
  exact ⟨rfl, bi⟩
theorem rread_ok {k : Int} (h : Rv w A n rs) (hl : ∀ r ∈ rs, r.length ≤ 100000) (hk : readE rs = k) : Calls Tryz.prog 11 #[.slice A n c] w fun e w' => e = .returned (.int .i64 k) ∧ Below w.heap.size w w' := by
  have hle := h.len
  unfold readE at hk
  by_cases h0 : n = 0
  · rw [if_pos (by omega)] at hk
    subst hk h0
    exact rread_none
  · rw [if_neg (by omega)] at hk
    by_cases h1 : 1000 < n
    · rw [if_pos (by omega)] at hk
      subst hk
      exact rread_many h1
    · rw [if_neg (by omega)] at hk
      exact rread_go h (by omega) (by omega) hl hk
end
end Go.Proofs.YtnbnoacadhoimaaGreatDoor
