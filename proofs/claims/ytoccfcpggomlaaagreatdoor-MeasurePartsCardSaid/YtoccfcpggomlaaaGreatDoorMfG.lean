/- Slices of texts, and the contracts of checking all of some numbers or moistures. -/
import Derived.Test.YtoccfcpggomlaaaGreatDoorMpG
set_option linter.unusedSimpArgs false
set_option linter.unusedVariables false
set_option maxRecDepth 100000
set_option maxHeartbeats 8000000
namespace Go.Proofs.YtoccfcpggomlaaaGreatDoor
open Go Go.RowKit

/-- A slice of texts. -/
structure Sv (w : World) (A : Option Addr) (n : Nat) (ls : List (List UInt8)) : Prop where
 len : ls.length = n
 at_ : 0 < n → ∃ b o, A = some ⟨b, o, none⟩ ∧ b < w.heap.size ∧ ∀ j, j < n → w.cell? ⟨b, o + j, none⟩ = some (bs (ls.getD j []))
theorem Sv.below {w w' : World} {A : Option Addr} {n : Nat} {ls : List (List UInt8)} (h : Sv w A n ls) (hb : Below w.heap.size w w') : Sv w' A n ls :=
 ⟨h.len, fun hn => by
   obtain ⟨b, o, e, h1, h2⟩ := h.at_ hn
   exact ⟨b, o, e, Nat.lt_of_lt_of_le h1 hb.size, fun j hj => by rw [hb.cell (p := ⟨b, o + j, none⟩) h1]; exact h2 j hj⟩⟩
theorem Sv.two (w : World) (t : TypeId) (k l : List UInt8) : Sv (w.alloc (.cells #[bs k, bs l] t)) (some ⟨w.heap.size, 0, none⟩) 2 [k, l] :=
 ⟨rfl, fun _ => ⟨w.heap.size, 0, rfl, by simp, fun j hj => by
   have h : j = 0 ∨ j = 1 := by omega
   rcases h with rfl | rfl <;> simp⟩⟩
/-- The first value that is not 0. -/
def firstNZ {α : Type} (f : α → Int) : List α → Int
 | [] => 0
 | x :: r => if f x = 0 then firstNZ f r else f x
theorem drop_getD {α : Type} {d : α} {l : List α} {i : Nat} (h : i < l.length) : l.drop i = l.getD i d :: l.drop (i + 1) := by
 rw [List.drop_eq_getElem_cons h, List.getD_eq_getElem?_getD, List.getElem?_eq_getElem h]; rfl
theorem firstNZ_cons_ne {α : Type} {f : α → Int} {x : α} {r : List α} (h : f x ≠ 0) : firstNZ f (x :: r) = f x := by simp [firstNZ, h]
theorem firstNZ_cons_eq {α : Type} {f : α → Int} {x : α} {r : List α} (h : f x = 0) : firstNZ f (x :: r) = firstNZ f r := by simp [firstNZ, h]

section
variable {w : World} {A : Option Addr} {n c : Nat} {ls : List (List UInt8)} {f : List UInt8 → Int}
theorem checkAll_nums
(h : Sv w A n ls) (hn : n ≤ 100000) (hf : ∀ l ∈ ls, ∀ W, Below w.heap.size w W → Calls Tryz.prog 52 #[bs l] W fun e w' => e = .returned (.int .i64 (f l)) ∧ Below W.heap.size W w') :
  Calls Tryz.prog 67 #[.func (.func 52) #[] #[], .slice A n c] w fun e w' => e = .returned (.int .i64 (firstNZ f ls)) ∧ Below w.heap.size w w' := by
  obtain ⟨R, hR⟩ : ∃ R, firstNZ f ls = R := ⟨_, rfl⟩
  rw [hR]
  have HR := Lib.hid hR
  have H := Lib.hid h
  have HN := Lib.hid hn
  have HF := Lib.hid hf
  clear hR h hn hf
  go_enter Tryz.func67, Tryz.ntmps67
  go_wp2
  go_loopw [10] (fun u wr => ∃ (i : Nat), u = .int .i64 (i : Int) ∧ Below w.heap.size w wr ∧ i ≤ n ∧ firstNZ f (ls.drop i) = R) (fun u _ => n - (intOf u).toNat)
  case atStart => exact ⟨0, rfl, (by with_reducible repeat first | exact bR | assumption | apply bA | apply bD | apply bN | refine bC ?_ (by go_size) | refine bS ?_ ‹_›), by omega, HR.out⟩
  case round =>
   obtain ⟨i, rfl, hb, hin, hc⟩ := hrel
   by_cases hi : i < n
   ·have q0 : decide ((i : Int) < (n : Int)) = true := by simp; exact hi
    obtain ⟨b, o, rfl, hbl, hcell⟩ := (H.out.below hb).at_ (by omega)
    have hx := hcell i hi
    have hil : i < ls.length := by rw [H.out.len]; exact hi
    rw [drop_getD (d := []) hil] at hc
    have hmem : ls.getD i [] ∈ ls := by rw [List.getD_eq_getElem?_getD, List.getElem?_eq_getElem hil]; exact List.getElem_mem hil
    obtain ⟨x, hxx⟩ : ∃ x, ls.getD i [] = x := ⟨_, rfl⟩
    rw [hxx] at hx hc hmem
    have HX := Lib.hid (HF.out x hmem wr hb)
    have hnn := HN.out
    have HI := Lib.hid hi
    clear hcell hmem hil hxx
    by_cases h0 : f x = 0
    ·have HC : Hid (firstNZ f (ls.drop (i + 1)) = R) := Lib.hid (by rw [← hc, firstNZ_cons_eq h0])
     rw [h0] at HX
     clear hc h0 hi
     go_wp2_with (go_at_call 52; ((with_reducible refine (HX.out).mono ?_); rintro e1 w1 ⟨rfl, hb1⟩); obtain ⟨hc1, hf1⟩ := bcell hb1; (try simp only [dw] at hc1 hf1))
     exact ⟨⟨i + 1, by simp, (by with_reducible repeat first | exact bR | assumption | apply bA | apply bD | apply bN | refine bC ?_ (by go_size) | refine bS ?_ ‹_›), HI.out, HC.out⟩, by have := HI.out; simp [intOf]; omega⟩
    ·have hR : R = f x := by rw [← hc, firstNZ_cons_ne h0]
     subst hR
     obtain ⟨y, hy⟩ : ∃ y, f x = y := ⟨_, rfl⟩
     rw [hy] at HX
     have q1 : (y != 0) = true := by rw [bne_iff_ne, ← hy]; exact h0
     have HY := Lib.hid hy
     clear hc h0 hi hy HR
     go_wp2_with (go_at_call 52; ((with_reducible refine (HX.out).mono ?_); rintro e1 w1 ⟨rfl, hb1⟩); obtain ⟨hc1, hf1⟩ := bcell hb1; (try simp only [dw] at hc1 hf1))
     go_ret
     exact ⟨by rw [HY.out]; rfl, (by with_reducible repeat first | exact bR | assumption | apply bA | apply bD | apply bN | refine bC ?_ (by go_size) | refine bS ?_ ‹_›)⟩
   ·have q0 : decide (i < n) = false := by simp; omega
    rw [List.drop_eq_nil_of_le (by rw [H.out.len]; omega)] at hc
    have hR : R = 0 := by rw [← hc]; rfl
    subst hR
    clear hc hi HR
    go_wp2
    go_ret
    exact ⟨rfl, (by with_reducible repeat first | exact bR | assumption | apply bA | apply bD | apply bN | refine bC ?_ (by go_size) | refine bS ?_ ‹_›)⟩
theorem checkAll_moist
(h : Sv w A n ls) (hn : n ≤ 100000) (hf : ∀ l ∈ ls, ∀ W, Below w.heap.size w W → Calls Tryz.prog 68 #[bs l] W fun e w' => e = .returned (.int .i64 (f l)) ∧ Below W.heap.size W w') :
  Calls Tryz.prog 67 #[.func (.func 68) #[] #[], .slice A n c] w fun e w' => e = .returned (.int .i64 (firstNZ f ls)) ∧ Below w.heap.size w w' := by
  obtain ⟨R, hR⟩ : ∃ R, firstNZ f ls = R := ⟨_, rfl⟩
  rw [hR]
  have HR := Lib.hid hR
  have H := Lib.hid h
  have HN := Lib.hid hn
  have HF := Lib.hid hf
  clear hR h hn hf
  go_enter Tryz.func67, Tryz.ntmps67
  go_wp2
  go_loopw [10] (fun u wr => ∃ (i : Nat), u = .int .i64 (i : Int) ∧ Below w.heap.size w wr ∧ i ≤ n ∧ firstNZ f (ls.drop i) = R) (fun u _ => n - (intOf u).toNat)
  case atStart => exact ⟨0, rfl, (by with_reducible repeat first | exact bR | assumption | apply bA | apply bD | apply bN | refine bC ?_ (by go_size) | refine bS ?_ ‹_›), by omega, HR.out⟩
  case round =>
   obtain ⟨i, rfl, hb, hin, hc⟩ := hrel
   by_cases hi : i < n
   ·have q0 : decide ((i : Int) < (n : Int)) = true := by simp; exact hi
    obtain ⟨b, o, rfl, hbl, hcell⟩ := (H.out.below hb).at_ (by omega)
    have hx := hcell i hi
    have hil : i < ls.length := by rw [H.out.len]; exact hi
    rw [drop_getD (d := []) hil] at hc
    have hmem : ls.getD i [] ∈ ls := by rw [List.getD_eq_getElem?_getD, List.getElem?_eq_getElem hil]; exact List.getElem_mem hil
    obtain ⟨x, hxx⟩ : ∃ x, ls.getD i [] = x := ⟨_, rfl⟩
    rw [hxx] at hx hc hmem
    have HX := Lib.hid (HF.out x hmem wr hb)
    have hnn := HN.out
    have HI := Lib.hid hi
    clear hcell hmem hil hxx
    by_cases h0 : f x = 0
    ·have HC : Hid (firstNZ f (ls.drop (i + 1)) = R) := Lib.hid (by rw [← hc, firstNZ_cons_eq h0])
     rw [h0] at HX
     clear hc h0 hi
     go_wp2_with (go_at_call 68; ((with_reducible refine (HX.out).mono ?_); rintro e1 w1 ⟨rfl, hb1⟩); obtain ⟨hc1, hf1⟩ := bcell hb1; (try simp only [dw] at hc1 hf1))
     exact ⟨⟨i + 1, by simp, (by with_reducible repeat first | exact bR | assumption | apply bA | apply bD | apply bN | refine bC ?_ (by go_size) | refine bS ?_ ‹_›), HI.out, HC.out⟩, by have := HI.out; simp [intOf]; omega⟩
    ·have hR : R = f x := by rw [← hc, firstNZ_cons_ne h0]
     subst hR
     obtain ⟨y, hy⟩ : ∃ y, f x = y := ⟨_, rfl⟩
     rw [hy] at HX
     have q1 : (y != 0) = true := by rw [bne_iff_ne, ← hy]; exact h0
     have HY := Lib.hid hy
     clear hc h0 hi hy HR
     go_wp2_with (go_at_call 68; ((with_reducible refine (HX.out).mono ?_); rintro e1 w1 ⟨rfl, hb1⟩); obtain ⟨hc1, hf1⟩ := bcell hb1; (try simp only [dw] at hc1 hf1))
     go_ret
     exact ⟨by rw [HY.out]; rfl, (by with_reducible repeat first | exact bR | assumption | apply bA | apply bD | apply bN | refine bC ?_ (by go_size) | refine bS ?_ ‹_›)⟩
   ·have q0 : decide (i < n) = false := by simp; omega
    rw [List.drop_eq_nil_of_le (by rw [H.out.len]; omega)] at hc
    have hR : R = 0 := by rw [← hc]; rfl
    subst hR
    clear hc hi HR
    go_wp2
    go_ret
    exact ⟨rfl, (by with_reducible repeat first | exact bR | assumption | apply bA | apply bD | apply bN | refine bC ?_ (by go_size) | refine bS ?_ ‹_›)⟩
end

/-- The fraction that a text stands for. -/
noncomputable def numQ (l : List UInt8) : Rat := @dite _ (∃ x, IsNum l x) (Classical.propDecidable _) (fun h => Classical.choose h) (fun _ => 0)
theorem IsNum.numQ {l : List UInt8} {x : Rat} (h : IsNum l x) : numQ l = x := by
 have h1 : ∃ x, IsNum l x := ⟨x, h⟩
 unfold Proofs.YtoccfcpggomlaaaGreatDoor.numQ
 rw [dif_pos h1]
 exact (Classical.choose_spec h1).inj h
theorem numQ_is {l : List UInt8} (h : chk l = 0) : IsNum l (numQ l) := by
 obtain ⟨x, hx⟩ := chk_zero.1 h
 rw [hx.numQ]; exact hx
/-- What is wrong with a text that is to be a moisture (0: nothing). -/
noncomputable def mst (l : List UInt8) : Int := if chk l = 0 then (if numQ l < 0 ∨ 100 ≤ numQ l then 3 else 0) else chk l
theorem check_fact {w : World} {l : List UInt8} {k : Int} (hk : chk l = k) (hE : Env w) (hl : l.length < 4294967281) : Calls Tryz.prog 52 #[bs l] w fun e w' => e = .returned (.int .i64 k) ∧ Below w.heap.size w w' := hk ▸ check_num hE hl
theorem fsign_fact {w : World} {s t : Int} {A B : Option Addr} {n c m d : Nat} {x : Rat} {k : Int} (hk : sgn x.num = k) (h : RepF w s A n c t B m d x) : Calls Tryz.prog 99 #[fv s A n c t B m d] w fun e w' => e = .returned (.int .i64 k) ∧ Below w.heap.size w w' := hk ▸ fsign_num h
theorem num_neg {x : Rat} : x.num < 0 ↔ x < 0 := by rw [Rat.lt_iff]; simp
theorem ten_B {k n : Nat} (h : k < 10 ^ n) : k ≤ B64 ^ n := Nat.le_of_lt (Nat.lt_of_lt_of_le h (Nat.pow_le_pow_left (by rw [B64_eq]; omega) n))
theorem digits_lt (n : Nat) : n < 10 ^ (Go.Lib.decDigits n).length := by
 have h := Dig.val_lt (Go.Lib.decDigits n) (Dig.digits_dig n).1
 rwa [Dig.val_digits] at h
theorem dig_sz {n k : Nat} (h : (Go.Lib.decDigits n).length ≤ k) : n ≤ B64 ^ k := Nat.le_trans (ten_B (digits_lt _)) (Nat.pow_le_pow_right B64_pos h)
theorem sz_of {k : Nat} {x : Rat} (h1 : (Go.Lib.decDigits x.num.natAbs).length ≤ k) (h2 : (Go.Lib.decDigits x.den).length ≤ k) : Sz k x := ⟨dig_sz h1, dig_sz h2⟩
theorem IsNum.sz {l : List UInt8} {x : Rat} (h : IsNum l x) : Sz 600 x := sz_of h.num h.den
theorem sz_int {a : Int} (h : R64 a) : Sz 1 (a : Rat) := Sz.int (by rw [Nat.pow_one, B64_eq]; have := h.1; have := h.2; omega)
theorem f_fact {w : World} {a : Int} {x : Rat} (hx : (a : Rat) = x) (h : R64 a) : Calls Tryz.prog 62 #[.int .i64 a] w (FracPost x w) := hx ▸ f_num h

section
variable {w : World} {l : List UInt8} {x : Rat}
theorem moist_err {k : Int} (hE : Env w) (hl : l.length < 4294967281) (hk : chk l = k) (h0 : k ≠ 0) : Calls Tryz.prog 68 #[bs l] w fun e w' => e = .returned (.int .i64 k) ∧ Below w.heap.size w w' := by
 have HE := Lib.hid hE
 have HL := Lib.hid hl
 have HK := Lib.hid hk
 have q1 : (k != 0) = true := by rw [bne_iff_ne]; exact h0
 clear hE hl hk h0
 go_enter Tryz.func68, Tryz.ntmps68
 go_wp2_with (go_at_call 52; ((with_reducible refine (check_fact HK.out (HE.out.below (by with_reducible repeat first | exact bR | assumption | apply bA | apply bD | apply bN | refine bC ?_ (by go_size) | refine bS ?_ ‹_›)) HL.out).mono ?_); rintro e1 w1 ⟨rfl, hb1⟩); obtain ⟨hc1, hf1⟩ := bcell hb1; (try simp only [dw] at hc1 hf1))
 go_ret
 exact ⟨rfl, (by with_reducible repeat first | exact bR | assumption | apply bA | apply bD | apply bN | refine bC ?_ (by go_size) | refine bS ?_ ‹_›)⟩
theorem moist_neg (hE : Env w) (hl : l.length < 4294967281) (hx : IsNum l x) (h0 : x < 0) : Calls Tryz.prog 68 #[bs l] w fun e w' => e = .returned (.int .i64 3) ∧ Below w.heap.size w w' := by
 have HE := Lib.hid hE
 have HL := Lib.hid hl
 have HK := Lib.hid (chk_zero.2 ⟨x, hx⟩)
 have HX := Lib.hid hx
 have HS := Lib.hid (show sgn x.num = -1 by unfold sgn; rw [if_pos (num_neg.2 h0)])
 clear hE hl hx h0
 go_enter Tryz.func68, Tryz.ntmps68
 go_wp2_with (first | (go_at_call 52; ((with_reducible refine (check_fact HK.out (HE.out.below (by with_reducible repeat first | exact bR | assumption | apply bA | apply bD | apply bN | refine bC ?_ (by go_size) | refine bS ?_ ‹_›)) HL.out).mono ?_); rintro e1 w1 ⟨rfl, hb1⟩); obtain ⟨hc1, hf1⟩ := bcell hb1; (try simp only [dw] at hc1 hf1)) | (go_at_call 55; ((with_reducible refine (from_fact HX.out (HE.out.below (by with_reducible repeat first | exact bR | assumption | apply bA | apply bD | apply bN | refine bC ?_ (by go_size) | refine bS ?_ ‹_›))).mono ?_); rintro e2 w2 ⟨s2, A2, n2, c2, t2, B2, m2, d2, rfl, ⟨hr2, hq2⟩, hb2⟩); obtain ⟨hc2, hf2⟩ := bcell hb2; (try simp only [dw] at hc2 hf2)))
 refine wp_region_T (fun w' => Below (w2.alloc (.cells #[.int .i64 s2, .slice A2 n2 c2, .int .i64 t2, .slice B2 m2 d2] 77)).heap.size (w2.alloc (.cells #[.int .i64 s2, .slice A2 n2 c2, .int .i64 t2, .slice B2 m2 d2] 77)) w') [] (by kernel_rfl) ?_
 refine tb 0 (.agg #[.int .i64 s2, .slice A2 n2 c2, .int .i64 t2, .slice B2 m2 d2]) [1] rfl (by kernel_rfl) (fun _ _ _ h => h) (by rfl) (fun _ hcS hfS => by go_simp) (by with_reducible repeat first | exact bR | assumption | apply bA | apply bD | apply bN | refine bC ?_ (by go_size) | refine bS ?_ ‹_›) ?_
 simp only [Act.put, pA, pB, pC, pD, pE, pF]
 refine rd1 1 (by kernel_rfl) rfl (fun K hK => ?_)
 go_simp
 go_wp2_with (go_at_call 99; ((with_reducible refine (fsign_fact HS.out ⟨(by with_reducible repeat first | assumption | apply rD | apply rN | apply rA | refine rP ?_ rfl (by simp [go_sem, hc2]) | refine rB ?_ ‹_›), (by with_reducible repeat first | assumption | apply rD | apply rN | apply rA | refine rP ?_ rfl (by simp [go_sem, hc2]) | refine rB ?_ ‹_›)⟩).mono ?_); rintro e3 w3 ⟨rfl, hb3⟩); obtain ⟨hc3, hf3⟩ := bcell hb3; (try simp only [dw] at hc3 hf3))
 refine hK.out _ _ (fun _ => (by with_reducible repeat first | exact bR | assumption | apply bA | apply bD | apply bN | refine bC ?_ (by go_size) | refine bS ?_ ‹_›)) ?_
 clear hK K
 refine rd1 2 (by kernel_rfl) rfl (fun K hK => ?_)
 go_simp
 refine hK.out _ _ (fun _ => (by with_reducible repeat first | exact bR | assumption | apply bA | apply bD | apply bN | refine bC ?_ (by go_size) | refine bS ?_ ‹_›)) ?_
 clear hK K
 refine rd1 3 (by kernel_rfl) rfl (fun K hK => ?_)
 go_simp
 refine hK.out _ _ (fun _ => (by with_reducible repeat first | exact bR | assumption | apply bA | apply bD | apply bN | refine bC ?_ (by go_size) | refine bS ?_ ‹_›)) ?_
 clear hK K
 refine wpAnyT_take [] (i := 4) (v := undef) rfl (by kernel_rfl) (by kernel_rfl) (by kernel_rfl) (by kernel_rfl) (by kernel_rfl) (fun _ _ _ h => h) (Or.inr ⟨by rfl, rfl⟩) (by with_reducible repeat first | exact bR | assumption | apply bA | apply bD | apply bN | refine bC ?_ (by go_size) | refine bS ?_ ‹_›) ?_
 simp only [Act.put, pA, pB, pC, pD, pE, pF]
 refine rd1 5 (by kernel_rfl) rfl (fun K hK => ?_)
 go_simp
 refine hK.out _ _ (fun _ => (by with_reducible repeat first | exact bR | assumption | apply bA | apply bD | apply bN | refine bC ?_ (by go_size) | refine bS ?_ ‹_›)) ?_
 clear hK K
 refine rd1 6 (by kernel_rfl) rfl (fun K hK => ?_)
 go_simp
 refine hK.out _ _ (fun _ => (by with_reducible repeat first | exact bR | assumption | apply bA | apply bD | apply bN | refine bC ?_ (by go_size) | refine bS ?_ ‹_›)) ?_
 clear hK K
 refine rd1 7 (by kernel_rfl) rfl (fun K hK => ?_)
 go_simp
 refine hK.out _ _ (fun _ => (by with_reducible repeat first | exact bR | assumption | apply bA | apply bD | apply bN | refine bC ?_ (by go_size) | refine bS ?_ ‹_›)) ?_
 clear hK K
 refine rd1 8 (by kernel_rfl) rfl (fun K hK => ?_)
 go_simp
 refine hK.out _ _ (fun _ => (by with_reducible repeat first | exact bR | assumption | apply bA | apply bD | apply bN | refine bC ?_ (by go_size) | refine bS ?_ ‹_›)) ?_
 clear hK K
 refine wpAnyT_done (by kernel_rfl) ?_ _
 go_wp2
 go_ret
 exact ⟨rfl, (by with_reducible repeat first | exact bR | assumption | apply bA | apply bD | apply bN | refine bC ?_ (by go_size) | refine bS ?_ ‹_›)⟩

theorem moist_ge {b : Bool} (hE : Env w) (hl : l.length < 4294967281) (hx : IsNum l x) (h0 : 0 ≤ x) (hb : decide (0 ≤ Rq.cmpQ x 100) = b) : Calls Tryz.prog 68 #[bs l] w fun e w' => e = .returned (.int .i64 (if b then 3 else 0)) ∧ Below w.heap.size w w' := by
 have HE := Lib.hid hE
 have HL := Lib.hid hl
 have HK := Lib.hid (chk_zero.2 ⟨x, hx⟩)
 have HX := Lib.hid hx
 obtain ⟨k, hk⟩ : ∃ k, sgn x.num = k := ⟨_, rfl⟩
 have hk0 : 0 ≤ k := by
  rw [← hk]; unfold sgn
  have : ¬ x.num < 0 := fun h => Rat.not_lt.2 h0 (num_neg.1 h)
  rw [if_neg this]; split <;> omega
 have q1 : decide (k < 0) = false := by simp; omega
 have HS := Lib.hid hk
 obtain ⟨j, hj⟩ : ∃ j, Rq.cmpQ x 100 = j := ⟨_, rfl⟩
 have HJ := Lib.hid hj
 rw [hj] at hb
 have HF := Lib.hid (show ((100 : Int) : Rat) = 100 from rfl)
 have HR := Lib.hid (show R64 100 by constructor <;> decide)
 have H1 := Lib.hid hx.sz
 have H2 := Lib.hid (sz_int HR.out)
 rw [HF.out] at H2
 clear hE hl hx h0 hk hj hk0
 cases b
 all_goals
  go_enter Tryz.func68, Tryz.ntmps68
  go_wp2_with (first | (go_at_call 52; ((with_reducible refine (check_fact HK.out (HE.out.below (by with_reducible repeat first | exact bR | assumption | apply bA | apply bD | apply bN | refine bC ?_ (by go_size) | refine bS ?_ ‹_›)) HL.out).mono ?_); rintro e1 w1 ⟨rfl, hb1⟩); obtain ⟨hc1, hf1⟩ := bcell hb1; (try simp only [dw] at hc1 hf1)) | (go_at_call 55; ((with_reducible refine (from_fact HX.out (HE.out.below (by with_reducible repeat first | exact bR | assumption | apply bA | apply bD | apply bN | refine bC ?_ (by go_size) | refine bS ?_ ‹_›))).mono ?_); rintro e2 w2 ⟨s2, A2, n2, c2, t2, B2, m2, d2, rfl, ⟨hr2, hq2⟩, hb2⟩); obtain ⟨hc2, hf2⟩ := bcell hb2; (try simp only [dw] at hc2 hf2)))
  refine wp_region_T (fun w' => Below (w2.alloc (.cells #[.int .i64 s2, .slice A2 n2 c2, .int .i64 t2, .slice B2 m2 d2] 77)).heap.size (w2.alloc (.cells #[.int .i64 s2, .slice A2 n2 c2, .int .i64 t2, .slice B2 m2 d2] 77)) w') [] (by kernel_rfl) ?_
  refine tb 0 (.agg #[.int .i64 s2, .slice A2 n2 c2, .int .i64 t2, .slice B2 m2 d2]) [1] rfl (by kernel_rfl) (fun _ _ _ h => h) (by rfl) (fun _ hcS hfS => by go_simp) (by with_reducible repeat first | exact bR | assumption | apply bA | apply bD | apply bN | refine bC ?_ (by go_size) | refine bS ?_ ‹_›) ?_
  simp only [Act.put, pA, pB, pC, pD, pE, pF]
  refine rd1 1 (by kernel_rfl) rfl (fun K hK => ?_)
  go_simp
  go_wp2_with (go_at_call 99; ((with_reducible refine (fsign_fact HS.out ⟨(by with_reducible repeat first | assumption | apply rD | apply rN | apply rA | refine rP ?_ rfl (by simp [go_sem, hc2]) | refine rB ?_ ‹_›), (by with_reducible repeat first | assumption | apply rD | apply rN | apply rA | refine rP ?_ rfl (by simp [go_sem, hc2]) | refine rB ?_ ‹_›)⟩).mono ?_); rintro e3 w3 ⟨rfl, hb3⟩); obtain ⟨hc3, hf3⟩ := bcell hb3; (try simp only [dw] at hc3 hf3))
  refine hK.out _ _ (fun _ => (by with_reducible repeat first | exact bR | assumption | apply bA | apply bD | apply bN | refine bC ?_ (by go_size) | refine bS ?_ ‹_›)) ?_
  clear hK K
  refine rd1 2 (by kernel_rfl) rfl (fun K hK => ?_)
  go_simp
  refine hK.out _ _ (fun _ => (by with_reducible repeat first | exact bR | assumption | apply bA | apply bD | apply bN | refine bC ?_ (by go_size) | refine bS ?_ ‹_›)) ?_
  clear hK K
  refine rd1 3 (by kernel_rfl) rfl (fun K hK => ?_)
  go_simp
  refine hK.out _ _ (fun _ => (by with_reducible repeat first | exact bR | assumption | apply bA | apply bD | apply bN | refine bC ?_ (by go_size) | refine bS ?_ ‹_›)) ?_
  clear hK K
  have hy3 : w2.heap.size < w3.heap.size := by have := hb3.size; simp at this; omega
  refine tb 4 (.agg #[.int .i64 s2, .slice A2 n2 c2, .int .i64 t2, .slice B2 m2 d2]) [6] rfl (by kernel_rfl) (fun _ _ _ h => h) (by rfl) (fun _ hcS hfS => by go_simp) (by with_reducible repeat first | exact bR | assumption | apply bA | apply bD | apply bN | refine bC ?_ (by go_size) | refine bS ?_ ‹_›) ?_
  simp only [Act.put, pA, pB, pC, pD, pE, pF]
  refine rd1 5 (by kernel_rfl) rfl (fun K hK => ?_)
  go_simp
  go_wp2_with (go_at_call 62; ((with_reducible refine (f_fact HF.out HR.out).mono ?_); rintro e4 w4 ⟨s4, A4, n4, c4, t4, B4, m4, d4, rfl, ⟨hr4, hq4⟩, hb4⟩); obtain ⟨hc4, hf4⟩ := bcell hb4; (try simp only [dw] at hc4 hf4))
  refine hK.out _ _ (fun _ => (by with_reducible repeat first | exact bR | assumption | apply bA | apply bD | apply bN | refine bC ?_ (by go_size) | refine bS ?_ ‹_›)) ?_
  clear hK K
  refine rd1 6 (by kernel_rfl) rfl (fun K hK => ?_)
  go_simp
  go_wp2_with (go_at_call 36; ((with_reducible refine (fcmp_fact 600 1 HJ.out ⟨(by with_reducible repeat first | assumption | apply rD | apply rN | apply rA | refine rP ?_ rfl (by simp [go_sem, hc2]) | refine rB ?_ ‹_›), (by with_reducible repeat first | assumption | apply rD | apply rN | apply rA | refine rP ?_ rfl (by simp [go_sem, hc2]) | refine rB ?_ ‹_›)⟩ ⟨hr4, hq4⟩ H1.out H2.out (by omega)).mono ?_); rintro e5 w5 ⟨rfl, hb5⟩); obtain ⟨hc5, hf5⟩ := bcell hb5; (try simp only [dw] at hc5 hf5))
  refine hK.out _ _ (fun _ => (by with_reducible repeat first | exact bR | assumption | apply bA | apply bD | apply bN | refine bC ?_ (by go_size) | refine bS ?_ ‹_›)) ?_
  clear hK K
  refine rd1 7 (by kernel_rfl) rfl (fun K hK => ?_)
  go_simp
  refine hK.out _ _ (fun _ => (by with_reducible repeat first | exact bR | assumption | apply bA | apply bD | apply bN | refine bC ?_ (by go_size) | refine bS ?_ ‹_›)) ?_
  clear hK K
  refine rd1 8 (by kernel_rfl) rfl (fun K hK => ?_)
  go_simp
  refine hK.out _ _ (fun _ => (by with_reducible repeat first | exact bR | assumption | apply bA | apply bD | apply bN | refine bC ?_ (by go_size) | refine bS ?_ ‹_›)) ?_
  clear hK K
  refine wpAnyT_done (by kernel_rfl) ?_ _
  go_wp2
  go_ret
  exact ⟨rfl, (by with_reducible repeat first | exact bR | assumption | apply bA | apply bD | apply bN | refine bC ?_ (by go_size) | refine bS ?_ ‹_›)⟩
end

theorem cmp_hundred {x : Rat} : decide (0 ≤ Rq.cmpQ x 100) = decide (100 ≤ x) := by
 rw [decide_eq_decide]
 constructor
 ·intro h
  exact Rat.not_lt.1 (fun h1 => by have := Rq.cmp_neg.2 h1; omega)
 ·intro h
  rcases Int.lt_or_le (Rq.cmpQ x 100) 0 with h1 | h1
  ·exact absurd h (Rat.not_le.2 (Rq.cmp_neg.1 h1))
  ·exact h1
section
variable {w : World} {l a b : List UInt8} {x y : Rat}
theorem moist_num (hE : Env w) (hl : l.length < 4294967281) : Calls Tryz.prog 68 #[bs l] w fun e w' => e = .returned (.int .i64 (mst l)) ∧ Below w.heap.size w w' := by
 unfold mst
 by_cases h : chk l = 0
 ·rw [if_pos h]
  have hx := numQ_is h
  generalize numQ l = x at hx
  by_cases h0 : x < 0
  ·rw [if_pos (Or.inl h0)]; exact moist_neg hE hl hx h0
  ·have := moist_ge hE hl hx (Rat.not_lt.1 h0) cmp_hundred
   by_cases h1 : 100 ≤ x
   ·rw [if_pos (Or.inr h1)]; simpa [h1] using this
   ·rw [if_neg (fun h2 => h2.elim h0 h1)]; simpa [h1] using this
 ·rw [if_neg h]; exact moist_err hE hl rfl h
/-- A text that is a valid moisture. -/
structure IsMoist (l : List UInt8) (x : Rat) : Prop where
 num : IsNum l x
 low : 0 ≤ x
 high : x < 100
theorem IsMoist.mst {l : List UInt8} {x : Rat} (h : IsMoist l x) : mst l = 0 := by
 unfold Proofs.YtoccfcpggomlaaaGreatDoor.mst
 rw [if_pos (chk_zero.2 ⟨x, h.num⟩), h.num.numQ, if_neg]
 intro h1
 exact h1.elim (fun h2 => Rat.not_lt.2 h.low h2) (fun h2 => Rat.not_lt.2 h2 h.high)
theorem fsub_fact {w : World} {s t u v : Int} {A B C D : Option Addr} {n c m d i k j l : Nat} {x y z : Rat} (p q : Nat) (hz : x - y = z) (h : RepF w s A n c t B m d x) (h' : RepF w u C i k v D j l y) (hs : Sz p x) (hs' : Sz q y) (hpq : p + q + 1 < 100000) :
  Calls Tryz.prog 101 #[fv s A n c t B m d, fv u C i k v D j l] w (FracPost z w) := hz ▸ fsub_num h h' hs hs' hpq
theorem fdiv_fact {w : World} {s t u v : Int} {A B C D : Option Addr} {n c m d i k j l : Nat} {x y z : Rat} (p q : Nat) (hz : x / y = z) (h : RepF w s A n c t B m d x) (h' : RepF w u C i k v D j l y) (hs : Sz p x) (hs' : Sz q y) (hpq : p + q < 100000) (hy : y ≠ 0) :
  Calls Tryz.prog 66 #[fv s A n c t B m d, fv u C i k v D j l] w (FracPost z w) := hz ▸ fdiv_num h h' hs hs' hpq hy
theorem dry_num {z : Rat} (hE : Env w) (hx : IsNum l x) (hz : 100 - x = z) : Calls Tryz.prog 69 #[bs l] w (FracPost z w) := by
 have HE := Lib.hid hE
 have HX := Lib.hid hx
 have HF := Lib.hid (show ((100 : Int) : Rat) = 100 from rfl)
 have HR := Lib.hid (show R64 100 by constructor <;> decide)
 have H1 := Lib.hid hx.sz
 have H2 := Lib.hid (sz_int HR.out)
 rw [HF.out] at H2
 have HZ := Lib.hid hz
 clear hE hx hz
 go_enter Tryz.func69, Tryz.ntmps69
 go_wp2_with (first
  | (go_at_call 62; ((with_reducible refine (f_fact HF.out HR.out).mono ?_); rintro e1 w1 ⟨s1, A1, n1, c1, t1, B1, m1, d1, rfl, ⟨hr1, hq1⟩, hb1⟩); obtain ⟨hc1, hf1⟩ := bcell hb1; (try simp only [dw] at hc1 hf1); have hz1_0 : w.heap.size < w1.heap.size := (by have := hb1.size; (try simp at this); omega))
  | (go_at_call 55; ((with_reducible refine (from_fact HX.out (HE.out.below (by with_reducible repeat first | exact bR | assumption | apply bA | apply bD | apply bN | refine bC ?_ (by go_size) | refine bS ?_ ‹_›))).mono ?_); rintro e2 w2 ⟨s2, A2, n2, c2, t2, B2, m2, d2, rfl, ⟨hr2, hq2⟩, hb2⟩); obtain ⟨hc2, hf2⟩ := bcell hb2; (try simp only [dw] at hc2 hf2); have hz2_0 : w.heap.size < w2.heap.size := (by have := hb2.size; (try simp at this); omega))
  | (go_at_call 101; ((with_reducible refine (fsub_fact 1 600 HZ.out ⟨(by with_reducible repeat first | assumption | apply rD | apply rN | apply rA | refine rP ?_ rfl (by simp [go_sem, hc2]) | refine rB ?_ ‹_›), (by with_reducible repeat first | assumption | apply rD | apply rN | apply rA | refine rP ?_ rfl (by simp [go_sem, hc2]) | refine rB ?_ ‹_›)⟩ ⟨hr2, hq2⟩ H2.out H1.out (by omega)).mono ?_); rintro e3 w3 ⟨s3, A3, n3, c3, t3, B3, m3, d3, rfl, ⟨hr3, hq3⟩, hb3⟩); obtain ⟨hc3, hf3⟩ := bcell hb3; (try simp only [dw] at hc3 hf3); have hz3_0 : w.heap.size < w3.heap.size := (by have := hb3.size; (try simp at this); omega)))
 exact bodyPost_ret (v := .agg #[.int .i64 (s3), .slice (A3) (n3) (c3), .int .i64 (t3), .slice (B3) (m3) (d3)]) (by simp [results, Tryz.results69, go_sem, hc3, hz2_0, hc2, hz1_0, hc1]) rfl (frac_ret rfl ⟨(by with_reducible repeat first | assumption | apply rD | apply rN | apply rA | refine rP ?_ rfl (by simp [go_sem, hc3, hz2_0, hc2, hz1_0, hc1]) | refine rB ?_ ‹_›), (by with_reducible repeat first | assumption | apply rD | apply rN | apply rA | refine rP ?_ rfl (by simp [go_sem, hc3, hz2_0, hc2, hz1_0, hc1]) | refine rB ?_ ‹_›)⟩ (by with_reducible repeat first | exact bR | assumption | apply bA | apply bD | apply bN | refine bC ?_ (by go_size) | refine bS ?_ ‹_›))

theorem sub_ne {y : Rat} (h : y < 100) : 100 - y ≠ 0 := fun e => by
 have h1 : y = 100 := by
  have := congrArg (· + y) e
  simp only [Rat.sub_eq_add_neg, Rat.add_assoc, Rat.neg_add_cancel, Rat.add_zero, Rat.zero_add] at this
  exact this.symm
 rw [h1] at h; exact Rat.lt_irrefl h
theorem wet_ok {mass : Int} {z : Rat} {tz : List UInt8} {ez : Int} (hE : Env w) (hx : IsMoist a x) (hy : IsMoist b y) (h0 : 0 ≤ mass) (h1 : mass ≤ 999999999) (hz : (mass : Rat) * (100 - x) / (100 - y) = z) (hS : StrQ z) (ht : giveT z = tz) (he : giveE z = ez) (hla : a.length < 4294967281) (hlb : b.length < 4294967281) :
  Calls Tryz.prog 25 #[.int .i64 mass, bs a, bs b] w fun e w' => e = .returned (.tuple #[bs tz, .int .i64 ez]) ∧ Below w.heap.size w w' := by
 have HE := Lib.hid hE
 have HX := Lib.hid hx
 have HY := Lib.hid hy
 have HRM := Lib.hid (show R64 mass from ⟨by omega, by omega⟩)
 have HZ := Lib.hid hz
 have HS := Lib.hid hS
 have HT := Lib.hid (And.intro ht he)
 have q1 : decide (mass < 0) = false := by simp; omega
 have q2 : decide (999999999 < mass) = false := by simp; omega
 have H1 := Lib.hid (sz_int HRM.out)
 have H100 : Sz 1 (100 : Rat) := sz_int (a := 100) (by constructor <;> decide)
 have H2 := Lib.hid (H100.sub hx.num.sz)
 have H3 := Lib.hid (H100.sub hy.num.sz)
 have H4 := Lib.hid (H1.out.mul H2.out)
 have HNE := Lib.hid (sub_ne hy.high)
 have HCA : Hid (∀ W (A : Option Addr) (n c : Nat), Below w.heap.size w W → Sv W A n [a, b] → n ≤ 100000 → Calls Tryz.prog 67 #[.func (.func 68) #[] #[], .slice A n c] W fun e w' => e = .returned (.int .i64 0) ∧ Below W.heap.size W w') := Lib.hid (fun W A n c hb hs hn => by
  have h := checkAll_moist (c := c) (f := mst) hs hn (fun l hl V hV => by
   have hl2 : l.length < 4294967281 := by
    rcases List.mem_cons.1 hl with rfl | hl
    ·exact hla
    ·rcases List.mem_cons.1 hl with rfl | hl
     ·exact hlb
     ·cases hl
   exact moist_num ((hE.below hb).below hV) hl2)
  have e : firstNZ mst [a, b] = 0 := by simp [firstNZ, hx.mst, hy.mst]
  rwa [e] at h)
 clear hE hx hy h0 h1 hz hS ht he hla hlb H100
 go_enter Tryz.func25, Tryz.ntmps25
 go_wp2_with (first
  | (go_at_call 67; ((with_reducible refine (HCA.out _ _ _ _ (by with_reducible repeat first | exact bR | assumption | apply bA | apply bD | apply bN | refine bC ?_ (by go_size) | refine bS ?_ ‹_›) (Sv.two w _ a b) (by omega)).mono ?_); rintro e1 w1 ⟨rfl, hb1⟩); obtain ⟨hc1, hf1⟩ := bcell hb1; (try simp only [dw] at hc1 hf1))
  | (go_at_call 62; ((with_reducible refine (f_fact rfl HRM.out).mono ?_); rintro e2 w2 ⟨s2, A2, n2, c2, t2, B2, m2, d2, rfl, ⟨hr2, hq2⟩, hb2⟩); obtain ⟨hc2, hf2⟩ := bcell hb2; (try simp only [dw] at hc2 hf2))
  | (go_at_call 69; (with_reducible show Calls _ _ #[bs a] _ _); ((with_reducible refine (dry_num (HE.out.below (by with_reducible repeat first | exact bR | assumption | apply bA | apply bD | apply bN | refine bC ?_ (by go_size) | refine bS ?_ ‹_›)) HX.out.num rfl).mono ?_); rintro e3 w3 ⟨s3, A3, n3, c3, t3, B3, m3, d3, rfl, ⟨hr3, hq3⟩, hb3⟩); obtain ⟨hc3, hf3⟩ := bcell hb3; (try simp only [dw] at hc3 hf3))
  | (go_at_call 59; ((with_reducible refine (fmul_fact 1 602 rfl ⟨(by with_reducible repeat first | assumption | apply rD | apply rN | apply rA | refine rP ?_ rfl (by simp [go_sem, hc3]) | refine rB ?_ ‹_›), (by with_reducible repeat first | assumption | apply rD | apply rN | apply rA | refine rP ?_ rfl (by simp [go_sem, hc3]) | refine rB ?_ ‹_›)⟩ ⟨hr3, hq3⟩ H1.out H2.out (by omega)).mono ?_); rintro e4 w4 ⟨s4, A4, n4, c4, t4, B4, m4, d4, rfl, ⟨hr4, hq4⟩, hb4⟩); obtain ⟨hc4, hf4⟩ := bcell hb4; (try simp only [dw] at hc4 hf4))
  | (go_at_call 69; (with_reducible show Calls _ _ #[bs b] _ _); ((with_reducible refine (dry_num (HE.out.below (by with_reducible repeat first | exact bR | assumption | apply bA | apply bD | apply bN | refine bC ?_ (by go_size) | refine bS ?_ ‹_›)) HY.out.num rfl).mono ?_); rintro e5 w5 ⟨s5, A5, n5, c5, t5, B5, m5, d5, rfl, ⟨hr5, hq5⟩, hb5⟩); obtain ⟨hc5, hf5⟩ := bcell hb5; (try simp only [dw] at hc5 hf5))
  | (go_at_call 66; ((with_reducible refine (fdiv_fact 603 602 HZ.out ⟨(by with_reducible repeat first | assumption | apply rD | apply rN | apply rA | refine rP ?_ rfl (by simp [go_sem, hc5]) | refine rB ?_ ‹_›), (by with_reducible repeat first | assumption | apply rD | apply rN | apply rA | refine rP ?_ rfl (by simp [go_sem, hc5]) | refine rB ?_ ‹_›)⟩ ⟨hr5, hq5⟩ H4.out H3.out (by omega) HNE.out).mono ?_); rintro e6 w6 ⟨s6, A6, n6, c6, t6, B6, m6, d6, rfl, ⟨hr6, hq6⟩, hb6⟩); obtain ⟨hc6, hf6⟩ := bcell hb6; (try simp only [dw] at hc6 hf6))
  | (go_at_call 51; ((with_reducible refine (give_fact HT.out.1 HT.out.2 ⟨hr6, hq6⟩ (HE.out.below (by with_reducible repeat first | exact bR | assumption | apply bA | apply bD | apply bN | refine bC ?_ (by go_size) | refine bS ?_ ‹_›)) HS.out).mono ?_); rintro e7 w7 ⟨rfl, hb7⟩); obtain ⟨hc7, hf7⟩ := bcell hb7; (try simp only [dw] at hc7 hf7)))
 go_ret2
 exact ⟨rfl, (by with_reducible repeat first | exact bR | assumption | apply bA | apply bD | apply bN | refine bC ?_ (by go_size) | refine bS ?_ ‹_›)⟩
end
end Go.Proofs.YtoccfcpggomlaaaGreatDoor
