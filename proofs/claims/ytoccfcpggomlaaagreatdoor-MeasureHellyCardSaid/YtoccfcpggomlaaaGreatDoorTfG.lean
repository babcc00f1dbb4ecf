/- The contract of checking a number. -/
import Derived.Test.YtoccfcpggomlaaaGreatDoorFfG
import Derived.Test.YtoccfcpggomlaaaGreatDoorStabG
import Derived.Test.YtoccfcpggomlaaaGreatDoorRows
import Derived.LoopTactic
import Derived.Laws.RangeAny
import Derived.WalkKit
import Derived.ProofKit
import Derived.OpenShut
import Derived.Carry
import Derived.Deep.DeepHandedRow
import Derived.Lib.LaidTab
import Derived.Stop.LaidErr
import Derived.Lay
import Derived.MakeChecks
import Derived.Shelf.Vars
set_option linter.unusedSimpArgs false
set_option linter.unusedVariables false
set_option maxRecDepth 100000
set_option maxHeartbeats 8000000
namespace Go.Proofs.YtoccfcpggomlaaaGreatDoor
open Go Go.RowKit

/-- The form of a number is bad, by the text ahead of the slash, that without a hyphen, the text behind the slash, and whether there is a slash. -/
def badForm (top size bottom : List UInt8) (is : Bool) : Bool := !Dig.plain size || (top == [45, 48]) || (is && (!Dig.plain bottom || (bottom == [48]) || (bottom == [49])))
def chkOf (top size bottom : List UInt8) (is : Bool) : Int :=
 if badForm top size bottom is then 1
 else if 600 < size.length ∨ 600 < bottom.length then 4
 else if is && decide (Nat.gcd (Dig.val size) (Dig.val bottom) ≠ 1) then 1 else 0
/-- What is wrong with a text that is to be a number (0: nothing). -/
def chk (l : List UInt8) : Int := chkOf (Lib.cut l [47]).1 (Lib.trimPrefix (Lib.cut l [47]).1 [45]) (Lib.cut l [47]).2.1 (Lib.cut l [47]).2.2

theorem plain_digs {l : List UInt8} (h : Dig.plain l = true) : Digs l := by
 unfold Dig.plain at h
 simp only [Bool.and_eq_true] at h
 exact fun c hc => List.all_eq_true.1 h.1.2 c hc
theorem small_fact {w : World} {s : Int} {A : Option Addr} {n c : Nat} {g : Bool} (hg : A.isNone = g) : Calls Tryz.prog 97 #[iv s A n c] w fun e w' => e = .returned (.tuple #[.int .i64 s, .bool g]) ∧ Below w.heap.size w w' := hg ▸ small_num
theorem cut_len {l : List UInt8} : (Lib.cut l [47]).1.length ≤ l.length ∧ (Lib.cut l [47]).2.1.length ≤ l.length := by
 rcases split_first 47 l with h | ⟨a, b, rfl, h⟩
 ·rw [cut_miss h]; simp
 ·rw [cut_hit b h]; simp; omega
theorem trim_len (l p : List UInt8) : (Lib.trimPrefix l p).length ≤ l.length := by
 unfold Lib.trimPrefix; split <;> simp

section
variable {w : World} {l top size bottom : List UInt8} {is : Bool}
theorem check_run (hE : Env w) (hl : l.length < 4294967281) (hc : Lib.cut l [47] = (top, bottom, is)) (ht : Lib.trimPrefix top [45] = size) :
  Calls Tryz.prog 52 #[bs l] w fun e w' => e = .returned (.int .i64 (chkOf top size bottom is)) ∧ Below w.heap.size w w' := by
 have hlt : top.length ≤ l.length := by have := (cut_len (l := l)).1; rw [hc] at this; exact this
 have hlb : bottom.length ≤ l.length := by have := (cut_len (l := l)).2; rw [hc] at this; exact this
 have hls : size.length ≤ l.length := by rw [← ht]; exact Nat.le_trans (trim_len _ _) hlt
 have HE := qh hE
 have HL := qh hl
 have HC := qh hc
 have HT := qh ht
 have HS := qh (show size.length ≤ 9223372036854775807 by omega)
 have HSB := qh (show bottom.length ≤ 9223372036854775807 by omega)
 obtain ⟨b1, hb1⟩ : ∃ b, Dig.plain size = b := ⟨_, rfl⟩
 obtain ⟨b2, hb2⟩ : ∃ b, (top == [45, 48]) = b := ⟨_, rfl⟩
 obtain ⟨b4, hb4⟩ : ∃ b, Dig.plain bottom = b := ⟨_, rfl⟩
 obtain ⟨b5, hb5⟩ : ∃ b, (bottom == [48]) = b := ⟨_, rfl⟩
 obtain ⟨b6, hb6⟩ : ∃ b, (bottom == [49]) = b := ⟨_, rfl⟩
 have HP := qh hb1
 have HB := qh hb4
 have hbad : badForm top size bottom is = (!b1 || b2 || (is && (!b4 || b5 || b6))) := by unfold badForm; rw [hb1, hb2, hb4, hb5, hb6]
 have HBAD := qh hbad
 clear hE hl hc ht hlt hlb hls hbad hb1 hb4
 by_cases hbf : (!b1 || b2 || (is && (!b4 || b5 || b6))) = true
 ·have e : chkOf top size bottom is = 1 := by unfold chkOf; rw [HBAD.out, hbf]; rfl
  rw [e]
  clear e HBAD
  cases b1
  ·clear hbf
   go_enter Tryz.func52, Tryz.ntmps52
   go_wp2_with (first
 | (go_at_call 42; ((with_reducible refine (cut_fact HC.out (HE.out.below (bq (by with_reducible repeat' first | assumption | constructor | go_size))) HL.out).mono ?_); rintro e1 w1 ⟨rfl, hb1⟩); obtain ⟨hc1, hf1⟩ := bcell hb1; (try simp only [dw] at hc1 hf1))
 | (go_at_call 41; ((with_reducible refine (trimPrefix_fact HT.out).mono ?_); rintro e2 w2 ⟨rfl, hb2⟩); obtain ⟨hc2, hf2⟩ := bcell hb2; (try simp only [dw] at hc2 hf2))
 | (go_at_call 96; (with_reducible show Calls _ _ #[bs size] _ _); ((with_reducible refine (plain_fact HP.out HS.out).mono ?_); rintro e3 w3 ⟨rfl, hb3⟩); obtain ⟨hc3, hf3⟩ := bcell hb3; (try simp only [dw] at hc3 hf3))
 | (go_at_call 96; (with_reducible show Calls _ _ #[bs bottom] _ _); ((with_reducible refine (plain_fact HB.out HSB.out).mono ?_); rintro e4 w4 ⟨rfl, hb4⟩); obtain ⟨hc4, hf4⟩ := bcell hb4; (try simp only [dw] at hc4 hf4)))
   go_ret
   exact ⟨by simp, (bq (by with_reducible repeat' first | assumption | constructor | go_size))⟩
  ·cases b2
   ·cases is
    ·cases hbf
    ·cases b4
     ·clear hbf
      go_enter Tryz.func52, Tryz.ntmps52
      go_wp2_with (first
 | (go_at_call 42; ((with_reducible refine (cut_fact HC.out (HE.out.below (bq (by with_reducible repeat' first | assumption | constructor | go_size))) HL.out).mono ?_); rintro e1 w1 ⟨rfl, hb1⟩); obtain ⟨hc1, hf1⟩ := bcell hb1; (try simp only [dw] at hc1 hf1))
 | (go_at_call 41; ((with_reducible refine (trimPrefix_fact HT.out).mono ?_); rintro e2 w2 ⟨rfl, hb2⟩); obtain ⟨hc2, hf2⟩ := bcell hb2; (try simp only [dw] at hc2 hf2))
 | (go_at_call 96; (with_reducible show Calls _ _ #[bs size] _ _); ((with_reducible refine (plain_fact HP.out HS.out).mono ?_); rintro e3 w3 ⟨rfl, hb3⟩); obtain ⟨hc3, hf3⟩ := bcell hb3; (try simp only [dw] at hc3 hf3))
 | (go_at_call 96; (with_reducible show Calls _ _ #[bs bottom] _ _); ((with_reducible refine (plain_fact HB.out HSB.out).mono ?_); rintro e4 w4 ⟨rfl, hb4⟩); obtain ⟨hc4, hf4⟩ := bcell hb4; (try simp only [dw] at hc4 hf4)))
      go_ret
      exact ⟨by simp, (bq (by with_reducible repeat' first | assumption | constructor | go_size))⟩
     ·cases b5
      ·cases b6
       ·cases hbf
       ·clear hbf
        go_enter Tryz.func52, Tryz.ntmps52
        go_wp2_with (first
 | (go_at_call 42; ((with_reducible refine (cut_fact HC.out (HE.out.below (bq (by with_reducible repeat' first | assumption | constructor | go_size))) HL.out).mono ?_); rintro e1 w1 ⟨rfl, hb1⟩); obtain ⟨hc1, hf1⟩ := bcell hb1; (try simp only [dw] at hc1 hf1))
 | (go_at_call 41; ((with_reducible refine (trimPrefix_fact HT.out).mono ?_); rintro e2 w2 ⟨rfl, hb2⟩); obtain ⟨hc2, hf2⟩ := bcell hb2; (try simp only [dw] at hc2 hf2))
 | (go_at_call 96; (with_reducible show Calls _ _ #[bs size] _ _); ((with_reducible refine (plain_fact HP.out HS.out).mono ?_); rintro e3 w3 ⟨rfl, hb3⟩); obtain ⟨hc3, hf3⟩ := bcell hb3; (try simp only [dw] at hc3 hf3))
 | (go_at_call 96; (with_reducible show Calls _ _ #[bs bottom] _ _); ((with_reducible refine (plain_fact HB.out HSB.out).mono ?_); rintro e4 w4 ⟨rfl, hb4⟩); obtain ⟨hc4, hf4⟩ := bcell hb4; (try simp only [dw] at hc4 hf4)))
        go_ret
        exact ⟨by simp, (bq (by with_reducible repeat' first | assumption | constructor | go_size))⟩
      ·clear hbf
       go_enter Tryz.func52, Tryz.ntmps52
       go_wp2_with (first
 | (go_at_call 42; ((with_reducible refine (cut_fact HC.out (HE.out.below (bq (by with_reducible repeat' first | assumption | constructor | go_size))) HL.out).mono ?_); rintro e1 w1 ⟨rfl, hb1⟩); obtain ⟨hc1, hf1⟩ := bcell hb1; (try simp only [dw] at hc1 hf1))
 | (go_at_call 41; ((with_reducible refine (trimPrefix_fact HT.out).mono ?_); rintro e2 w2 ⟨rfl, hb2⟩); obtain ⟨hc2, hf2⟩ := bcell hb2; (try simp only [dw] at hc2 hf2))
 | (go_at_call 96; (with_reducible show Calls _ _ #[bs size] _ _); ((with_reducible refine (plain_fact HP.out HS.out).mono ?_); rintro e3 w3 ⟨rfl, hb3⟩); obtain ⟨hc3, hf3⟩ := bcell hb3; (try simp only [dw] at hc3 hf3))
 | (go_at_call 96; (with_reducible show Calls _ _ #[bs bottom] _ _); ((with_reducible refine (plain_fact HB.out HSB.out).mono ?_); rintro e4 w4 ⟨rfl, hb4⟩); obtain ⟨hc4, hf4⟩ := bcell hb4; (try simp only [dw] at hc4 hf4)))
       go_ret
       exact ⟨by simp, (bq (by with_reducible repeat' first | assumption | constructor | go_size))⟩
   ·clear hbf
    go_enter Tryz.func52, Tryz.ntmps52
    go_wp2_with (first
 | (go_at_call 42; ((with_reducible refine (cut_fact HC.out (HE.out.below (bq (by with_reducible repeat' first | assumption | constructor | go_size))) HL.out).mono ?_); rintro e1 w1 ⟨rfl, hb1⟩); obtain ⟨hc1, hf1⟩ := bcell hb1; (try simp only [dw] at hc1 hf1))
 | (go_at_call 41; ((with_reducible refine (trimPrefix_fact HT.out).mono ?_); rintro e2 w2 ⟨rfl, hb2⟩); obtain ⟨hc2, hf2⟩ := bcell hb2; (try simp only [dw] at hc2 hf2))
 | (go_at_call 96; (with_reducible show Calls _ _ #[bs size] _ _); ((with_reducible refine (plain_fact HP.out HS.out).mono ?_); rintro e3 w3 ⟨rfl, hb3⟩); obtain ⟨hc3, hf3⟩ := bcell hb3; (try simp only [dw] at hc3 hf3))
 | (go_at_call 96; (with_reducible show Calls _ _ #[bs bottom] _ _); ((with_reducible refine (plain_fact HB.out HSB.out).mono ?_); rintro e4 w4 ⟨rfl, hb4⟩); obtain ⟨hc4, hf4⟩ := bcell hb4; (try simp only [dw] at hc4 hf4)))
    go_ret
    exact ⟨by simp, (bq (by with_reducible repeat' first | assumption | constructor | go_size))⟩
 ·have hbf2 : (!b1 || b2 || (is && (!b4 || b5 || b6))) = false := by simpa using hbf
  have hb1' : b1 = true := by cases b1 <;> simp_all
  have hb2' : b2 = false := by cases b2 <;> simp_all
  subst hb1' hb2'
  have e : chkOf top size bottom is = if 600 < size.length ∨ 600 < bottom.length then 4 else if is && decide (Nat.gcd (Dig.val size) (Dig.val bottom) ≠ 1) then 1 else 0 := by
   unfold chkOf; rw [HBAD.out, hbf2]; rfl
  clear HBAD hbf
  by_cases hs : 600 < size.length
  ·rw [e, if_pos (Or.inl hs)]
   have q7 : decide ((600 : Int) < (size.length : Int)) = true := by simp; omega
   clear e hs
   cases is
   ·clear hbf2
    go_enter Tryz.func52, Tryz.ntmps52
    go_wp2_with (first
 | (go_at_call 42; ((with_reducible refine (cut_fact HC.out (HE.out.below (bq (by with_reducible repeat' first | assumption | constructor | go_size))) HL.out).mono ?_); rintro e1 w1 ⟨rfl, hb1⟩); obtain ⟨hc1, hf1⟩ := bcell hb1; (try simp only [dw] at hc1 hf1))
 | (go_at_call 41; ((with_reducible refine (trimPrefix_fact HT.out).mono ?_); rintro e2 w2 ⟨rfl, hb2⟩); obtain ⟨hc2, hf2⟩ := bcell hb2; (try simp only [dw] at hc2 hf2))
 | (go_at_call 96; (with_reducible show Calls _ _ #[bs size] _ _); ((with_reducible refine (plain_fact HP.out HS.out).mono ?_); rintro e3 w3 ⟨rfl, hb3⟩); obtain ⟨hc3, hf3⟩ := bcell hb3; (try simp only [dw] at hc3 hf3))
 | (go_at_call 96; (with_reducible show Calls _ _ #[bs bottom] _ _); ((with_reducible refine (plain_fact HB.out HSB.out).mono ?_); rintro e4 w4 ⟨rfl, hb4⟩); obtain ⟨hc4, hf4⟩ := bcell hb4; (try simp only [dw] at hc4 hf4)))
    go_ret
    exact ⟨by simp, (bq (by with_reducible repeat' first | assumption | constructor | go_size))⟩
   ·simp only [Bool.not_true, Bool.false_or, Bool.true_and, Bool.or_eq_false_iff, Bool.not_eq_false'] at hbf2
    obtain ⟨⟨rfl, rfl⟩, rfl⟩ := hbf2
    go_enter Tryz.func52, Tryz.ntmps52
    go_wp2_with (first
 | (go_at_call 42; ((with_reducible refine (cut_fact HC.out (HE.out.below (bq (by with_reducible repeat' first | assumption | constructor | go_size))) HL.out).mono ?_); rintro e1 w1 ⟨rfl, hb1⟩); obtain ⟨hc1, hf1⟩ := bcell hb1; (try simp only [dw] at hc1 hf1))
 | (go_at_call 41; ((with_reducible refine (trimPrefix_fact HT.out).mono ?_); rintro e2 w2 ⟨rfl, hb2⟩); obtain ⟨hc2, hf2⟩ := bcell hb2; (try simp only [dw] at hc2 hf2))
 | (go_at_call 96; (with_reducible show Calls _ _ #[bs size] _ _); ((with_reducible refine (plain_fact HP.out HS.out).mono ?_); rintro e3 w3 ⟨rfl, hb3⟩); obtain ⟨hc3, hf3⟩ := bcell hb3; (try simp only [dw] at hc3 hf3))
 | (go_at_call 96; (with_reducible show Calls _ _ #[bs bottom] _ _); ((with_reducible refine (plain_fact HB.out HSB.out).mono ?_); rintro e4 w4 ⟨rfl, hb4⟩); obtain ⟨hc4, hf4⟩ := bcell hb4; (try simp only [dw] at hc4 hf4)))
    go_ret
    exact ⟨by simp, (bq (by with_reducible repeat' first | assumption | constructor | go_size))⟩
  ·have q7 : decide ((600 : Int) < (size.length : Int)) = false := by simp; omega
   by_cases hbt : 600 < bottom.length
   ·rw [e, if_pos (Or.inr hbt)]
    have q8 : decide ((600 : Int) < (bottom.length : Int)) = true := by simp; omega
    clear e hs hbt
    cases is
    ·clear hbf2
     go_enter Tryz.func52, Tryz.ntmps52
     go_wp2_with (first
 | (go_at_call 42; ((with_reducible refine (cut_fact HC.out (HE.out.below (bq (by with_reducible repeat' first | assumption | constructor | go_size))) HL.out).mono ?_); rintro e1 w1 ⟨rfl, hb1⟩); obtain ⟨hc1, hf1⟩ := bcell hb1; (try simp only [dw] at hc1 hf1))
 | (go_at_call 41; ((with_reducible refine (trimPrefix_fact HT.out).mono ?_); rintro e2 w2 ⟨rfl, hb2⟩); obtain ⟨hc2, hf2⟩ := bcell hb2; (try simp only [dw] at hc2 hf2))
 | (go_at_call 96; (with_reducible show Calls _ _ #[bs size] _ _); ((with_reducible refine (plain_fact HP.out HS.out).mono ?_); rintro e3 w3 ⟨rfl, hb3⟩); obtain ⟨hc3, hf3⟩ := bcell hb3; (try simp only [dw] at hc3 hf3))
 | (go_at_call 96; (with_reducible show Calls _ _ #[bs bottom] _ _); ((with_reducible refine (plain_fact HB.out HSB.out).mono ?_); rintro e4 w4 ⟨rfl, hb4⟩); obtain ⟨hc4, hf4⟩ := bcell hb4; (try simp only [dw] at hc4 hf4)))
     go_ret
     exact ⟨by simp, (bq (by with_reducible repeat' first | assumption | constructor | go_size))⟩
    ·simp only [Bool.not_true, Bool.false_or, Bool.true_and, Bool.or_eq_false_iff, Bool.not_eq_false'] at hbf2
     obtain ⟨⟨rfl, rfl⟩, rfl⟩ := hbf2
     go_enter Tryz.func52, Tryz.ntmps52
     go_wp2_with (first
 | (go_at_call 42; ((with_reducible refine (cut_fact HC.out (HE.out.below (bq (by with_reducible repeat' first | assumption | constructor | go_size))) HL.out).mono ?_); rintro e1 w1 ⟨rfl, hb1⟩); obtain ⟨hc1, hf1⟩ := bcell hb1; (try simp only [dw] at hc1 hf1))
 | (go_at_call 41; ((with_reducible refine (trimPrefix_fact HT.out).mono ?_); rintro e2 w2 ⟨rfl, hb2⟩); obtain ⟨hc2, hf2⟩ := bcell hb2; (try simp only [dw] at hc2 hf2))
 | (go_at_call 96; (with_reducible show Calls _ _ #[bs size] _ _); ((with_reducible refine (plain_fact HP.out HS.out).mono ?_); rintro e3 w3 ⟨rfl, hb3⟩); obtain ⟨hc3, hf3⟩ := bcell hb3; (try simp only [dw] at hc3 hf3))
 | (go_at_call 96; (with_reducible show Calls _ _ #[bs bottom] _ _); ((with_reducible refine (plain_fact HB.out HSB.out).mono ?_); rintro e4 w4 ⟨rfl, hb4⟩); obtain ⟨hc4, hf4⟩ := bcell hb4; (try simp only [dw] at hc4 hf4)))
     go_ret
     exact ⟨by simp, (bq (by with_reducible repeat' first | assumption | constructor | go_size))⟩
   ·have q8 : decide ((600 : Int) < (bottom.length : Int)) = false := by simp; omega
    rw [e, if_neg (by omega)]
    clear e
    cases is
    ·clear hbf2
     go_enter Tryz.func52, Tryz.ntmps52
     go_wp2_with (first
 | (go_at_call 42; ((with_reducible refine (cut_fact HC.out (HE.out.below (bq (by with_reducible repeat' first | assumption | constructor | go_size))) HL.out).mono ?_); rintro e1 w1 ⟨rfl, hb1⟩); obtain ⟨hc1, hf1⟩ := bcell hb1; (try simp only [dw] at hc1 hf1))
 | (go_at_call 41; ((with_reducible refine (trimPrefix_fact HT.out).mono ?_); rintro e2 w2 ⟨rfl, hb2⟩); obtain ⟨hc2, hf2⟩ := bcell hb2; (try simp only [dw] at hc2 hf2))
 | (go_at_call 96; (with_reducible show Calls _ _ #[bs size] _ _); ((with_reducible refine (plain_fact HP.out HS.out).mono ?_); rintro e3 w3 ⟨rfl, hb3⟩); obtain ⟨hc3, hf3⟩ := bcell hb3; (try simp only [dw] at hc3 hf3))
 | (go_at_call 96; (with_reducible show Calls _ _ #[bs bottom] _ _); ((with_reducible refine (plain_fact HB.out HSB.out).mono ?_); rintro e4 w4 ⟨rfl, hb4⟩); obtain ⟨hc4, hf4⟩ := bcell hb4; (try simp only [dw] at hc4 hf4)))
     go_ret
     exact ⟨by simp, (bq (by with_reducible repeat' first | assumption | constructor | go_size))⟩
    ·simp only [Bool.not_true, Bool.false_or, Bool.true_and, Bool.or_eq_false_iff, Bool.not_eq_false'] at hbf2
     obtain ⟨⟨rfl, rfl⟩, rfl⟩ := hbf2
     have D1 := plain_digs HP.out
     have D2 := plain_digs HB.out
     have HR1 := qh (fun W => read_text (w := W) (not_dash D1) (trim_dash D1) D1 (by omega))
     have HR2 := qh (fun W => read_text (w := W) (not_dash D2) (trim_dash D2) D2 (by omega))
     obtain ⟨x, hx⟩ : ∃ x, Dig.val size = x := ⟨_, rfl⟩
     obtain ⟨y, hy⟩ : ∃ y, Dig.val bottom = y := ⟨_, rfl⟩
     obtain ⟨g, hg⟩ : ∃ g, Nat.gcd x y = g := ⟨_, rfl⟩
     have L1 : Hid (Lim (sg false x)) := qh (lim_dec (n := size.length) (by rw [← hx]; exact Nat.le_of_lt (Dig.val_lt size D1)) (by omega))
     have L2 : Hid (Lim (sg false y)) := qh (lim_dec (n := bottom.length) (by rw [← hy]; exact Nat.le_of_lt (Dig.val_lt bottom D2)) (by omega))
     rw [hx] at HR1 ⊢
     rw [hy] at HR2 ⊢
     simp only [hg]
     have HG : Hid (Nat.gcd (sg false x).natAbs (sg false y).natAbs = g) := qh (by rw [natAbs_sg, natAbs_sg]; exact hg)
     clear D1 D2 hx hy hg hs hbt
     go_enter Tryz.func52, Tryz.ntmps52
     go_wp2_with (first
      | (go_at_call 42; ((with_reducible refine (cut_fact HC.out (HE.out.below (bq (by with_reducible repeat' first | assumption | constructor | go_size))) HL.out).mono ?_); rintro e1 w1 ⟨rfl, hb1⟩); obtain ⟨hc1, hf1⟩ := bcell hb1; (try simp only [dw] at hc1 hf1))
      | (go_at_call 41; ((with_reducible refine (trimPrefix_fact HT.out).mono ?_); rintro e2 w2 ⟨rfl, hb2⟩); obtain ⟨hc2, hf2⟩ := bcell hb2; (try simp only [dw] at hc2 hf2))
      | (go_at_call 96; (with_reducible show Calls _ _ #[bs size] _ _); ((with_reducible refine (plain_fact HP.out HS.out).mono ?_); rintro e3 w3 ⟨rfl, hb3⟩); obtain ⟨hc3, hf3⟩ := bcell hb3; (try simp only [dw] at hc3 hf3))
      | (go_at_call 96; (with_reducible show Calls _ _ #[bs bottom] _ _); ((with_reducible refine (plain_fact HB.out HSB.out).mono ?_); rintro e4 w4 ⟨rfl, hb4⟩); obtain ⟨hc4, hf4⟩ := bcell hb4; (try simp only [dw] at hc4 hf4))
      | (go_at_call 91; (with_reducible show Calls _ _ #[bs size] _ _); ((with_reducible refine (HR1.out _).mono ?_); rintro e5 w5 ⟨s5, A5, n5, c5, rfl, hr5, hb5⟩); obtain ⟨hc5, hf5⟩ := bcell hb5; (try simp only [dw] at hc5 hf5))
      | (go_at_call 91; (with_reducible show Calls _ _ #[bs bottom] _ _); ((with_reducible refine (HR2.out _).mono ?_); rintro e6 w6 ⟨s6, A6, n6, c6, rfl, hr6, hb6⟩); obtain ⟨hc6, hf6⟩ := bcell hb6; (try simp only [dw] at hc6 hf6))
      | ((go_at_call 94; ((with_reducible refine (gcd_fact HG.out (by with_reducible repeat first | assumption | apply rD | apply rN | apply rA | refine rP ?_ rfl (by simp [go_sem, hc6]) | refine rB ?_ ‹_›) (by with_reducible repeat first | assumption | apply rD | apply rN | apply rA | refine rP ?_ rfl (by simp [go_sem, hc6]) | refine rB ?_ ‹_›) L1.out L2.out).mono ?_); rintro e7 w7 ⟨s7, A7, n7, c7, rfl, hr7, hb7⟩); obtain ⟨hc7, hf7⟩ := bcell hb7; (try simp only [dw] at hc7 hf7)); refine Hid.out ?_))
     have ho := one_of hr7
     rcases A7 with _ | a7
     ·obtain ⟨rfl, rfl, rfl, _⟩ := hr7.none_
      by_cases h1 : g = 1
      ·subst h1
       refine qh ?_
       go_wp2_with (go_at_call 97; ((with_reducible refine (small_fact rfl).mono ?_); rintro e8 w8 ⟨rfl, hb8⟩); obtain ⟨hc8, hf8⟩ := bcell hb8; (try simp only [dw] at hc8 hf8))
       go_ret
       exact ⟨by simp, (bq (by with_reducible repeat' first | assumption | constructor | go_size))⟩
      ·have q9 : (((g : Nat) : Int) != 1) = true := by rw [bne_iff_ne]; omega
       have H1 := qh h1
       clear ho h1
       refine qh ?_
       go_wp2_with (go_at_call 97; ((with_reducible refine (small_fact rfl).mono ?_); rintro e8 w8 ⟨rfl, hb8⟩); obtain ⟨hc8, hf8⟩ := bcell hb8; (try simp only [dw] at hc8 hf8))
       all_goals
        (first
          | exact absurd (by assumption) H1.out
          | (go_ret; exact ⟨by simp [H1.out], (bq (by with_reducible repeat' first | assumption | constructor | go_size))⟩))
     ·have h1 : g ≠ 1 := by
       intro h; subst h
       simp at ho
      have H1 := qh h1
      clear ho h1
      refine qh ?_
      go_wp2_with (go_at_call 97; ((with_reducible refine (small_fact rfl).mono ?_); rintro e8 w8 ⟨rfl, hb8⟩); obtain ⟨hc8, hf8⟩ := bcell hb8; (try simp only [dw] at hc8 hf8))
      all_goals
       (first
         | exact absurd (by assumption) H1.out
         | (go_ret; exact ⟨by simp [H1.out], (bq (by with_reducible repeat' first | assumption | constructor | go_size))⟩))
theorem check_num (hE : Env w) (hl : l.length < 4294967281) : Calls Tryz.prog 52 #[bs l] w fun e w' => e = .returned (.int .i64 (chk l)) ∧ Below w.heap.size w w' := check_run hE hl rfl rfl
end
end Go.Proofs.YtoccfcpggomlaaaGreatDoor
namespace Go.Proofs.YtoccfcpggomlaaaGreatDoor

/-- l is the notation of x, with at most 600 digits above and below. -/
structure IsNum (l : List UInt8) (x : Rat) : Prop where
 eq : l = tq x
 num : (Go.Lib.decDigits x.num.natAbs).length ≤ 600
 den : (Go.Lib.decDigits x.den).length ≤ 600
theorem IsNum.dig {l : List UInt8} {x : Rat} (h : IsNum l x) : DigQ x := ⟨Nat.le_trans h.num (by omega), Nat.le_trans h.den (by omega)⟩

theorem head_dash {l : List UInt8} : Go.Lib.hasPrefix l [45] = true ↔ ∃ m, l = 45 :: m := by
 cases l with
 | nil => simp [Go.Lib.hasPrefix, List.isPrefixOf]
 | cons c r =>
   simp only [Go.Lib.hasPrefix, List.isPrefixOf, Bool.and_true, beq_iff_eq]
   constructor
   ·intro h; exact ⟨r, by rw [← h]⟩
   ·rintro ⟨m, h⟩; injection h with h1 h2; exact h1.symm
/-- A text that is an integer but for a hyphen ahead of 0. -/
theorem int_of {l size : List UInt8} (ht : Go.Lib.trimPrefix l [45] = size) (hp : Dig.plain size = true) (h0 : l ≠ [45, 48]) :
  ∃ z : Int, l = Go.Lib.itoa z ∧ z.natAbs = Dig.val size ∧ Go.Lib.decDigits z.natAbs = size := by
 have hv := Dig.digits_val hp
 by_cases hd : Go.Lib.hasPrefix l [45] = true
 ·obtain ⟨m, rfl⟩ := head_dash.1 hd
  have hm : m = size := by simpa [Go.Lib.trimPrefix, hd] using ht
  subst hm
  have hpos : 0 < Dig.val m := by
   rcases Nat.eq_zero_or_pos (Dig.val m) with h | h
   ·rw [h] at hv
    have : m = [48] := by rw [← hv]; unfold Go.Lib.decDigits; rfl
    exact absurd (by rw [this]) h0
   ·exact h
  refine ⟨-(Dig.val m : Int), ?_, by simp, by simpa using hv⟩
  unfold Go.Lib.itoa
  rw [if_pos (by omega)]
  simp [hv]
 ·have hm : l = size := by
   rw [← ht]; unfold Go.Lib.trimPrefix; rw [if_neg hd]
  subst hm
  refine ⟨(Dig.val l : Int), ?_, by simp, by simpa using hv⟩
  rw [itoa_nat, hv]
theorem plain_two {b : List UInt8} (hp : Dig.plain b = true) (h0 : b ≠ [48]) (h1 : b ≠ [49]) : 2 ≤ Dig.val b := by
 have hv := Dig.digits_val hp
 rcases Nat.lt_or_ge (Dig.val b) 2 with h | h
 ·have : Dig.val b = 0 ∨ Dig.val b = 1 := by omega
  rcases this with h2 | h2
  ·rw [h2] at hv; exact absurd (by rw [← hv]; unfold Go.Lib.decDigits; rfl) h0
  ·rw [h2] at hv; exact absurd (by rw [← hv]; unfold Go.Lib.decDigits; rfl) h1
 ·exact h
theorem chk_of {l top size bottom : List UInt8} {is : Bool} (hc : Go.Lib.cut l [47] = (top, bottom, is)) (ht : Go.Lib.trimPrefix top [45] = size) : chk l = chkOf top size bottom is := by
 unfold chk; rw [hc, ht]
theorem chkOf_zero {top size bottom : List UInt8} {is : Bool} : chkOf top size bottom is = 0 ↔ badForm top size bottom is = false ∧ size.length ≤ 600 ∧ bottom.length ≤ 600 ∧ (is = true → Nat.gcd (Dig.val size) (Dig.val bottom) = 1) := by
 unfold chkOf
 by_cases h1 : badForm top size bottom is = true
 ·rw [if_pos h1]; simp [h1]
 ·rw [if_neg h1]
  by_cases h2 : 600 < size.length ∨ 600 < bottom.length
  ·rw [if_pos h2]; constructor
   ·intro h; cases h
   ·intro h; omega
  ·rw [if_neg h2]
   cases is
   ·simp at h1 h2 ⊢; exact ⟨h1, h2.1, h2.2⟩
   ·by_cases h3 : Nat.gcd (Dig.val size) (Dig.val bottom) = 1
    ·simp [h3] at h1 h2 ⊢; exact ⟨h1, h2.1, h2.2⟩
    ·simp [h3]
theorem badForm_false {top size bottom : List UInt8} {is : Bool} : badForm top size bottom is = false ↔ Dig.plain size = true ∧ top ≠ [45, 48] ∧ (is = true → Dig.plain bottom = true ∧ bottom ≠ [48] ∧ bottom ≠ [49]) := by
 unfold badForm
 cases is <;> simp [and_assoc]
theorem rat_of (z : Int) (d : Nat) (hd : d ≠ 0) (hg : Nat.gcd z.natAbs d = 1) : ∃ x : Rat, x.num = z ∧ x.den = d := ⟨⟨z, d, hd, hg⟩, rfl, rfl⟩

theorem chk_zero {l : List UInt8} : chk l = 0 ↔ ∃ x, IsNum l x := by
 constructor
 ·intro h
  rcases split_first 47 l with hs | ⟨a, b, rfl, hs⟩
  ·rw [chk_of (cut_miss hs) rfl, chkOf_zero, badForm_false] at h
   obtain ⟨⟨hp, h0, _⟩, h1, _, _⟩ := h
   obtain ⟨z, rfl, h2, h3⟩ := int_of rfl hp h0
   refine ⟨(z : Rat), ?_, ?_, ?_⟩
   ·unfold tq; rw [if_pos (by rfl)]; rfl
   ·show (Go.Lib.decDigits z.natAbs).length ≤ 600
    rw [h3]; exact h1
   ·show (Go.Lib.decDigits 1).length ≤ 600
    unfold Go.Lib.decDigits; decide
  ·rw [chk_of (cut_hit b hs) rfl, chkOf_zero, badForm_false] at h
   obtain ⟨⟨hp, h0, hb⟩, h1, h4, hg⟩ := h
   obtain ⟨hpb, hb0, hb1⟩ := hb rfl
   have h2b := plain_two hpb hb0 hb1
   obtain ⟨z, hz, h2, h3⟩ := int_of rfl hp h0
   obtain ⟨x, hx1, hx2⟩ := rat_of z (Dig.val b) (by omega) (by rw [h2]; exact hg rfl)
   refine ⟨x, ?_, ?_, ?_⟩
   ·unfold tq; rw [if_neg (by omega), hx1, hx2, Dig.digits_val hpb, ← hz]
   ·rw [hx1, h3]; exact h1
   ·rw [hx2, Dig.digits_val hpb]; exact h4
 ·rintro ⟨x, h⟩
  have hi := pre_itoa x.num
  have hne : Go.Lib.itoa x.num ≠ [45, 48] := by
   intro e
   have h2 := hi.2
   have h1 := hi.1
   rw [e] at h1 h2
   have h3 : Go.Lib.decDigits x.num.natAbs = [48] := by rw [← h2]; rfl
   have h4 := Dig.val_digits x.num.natAbs
   rw [h3] at h4
   have h5 : x.num.natAbs = 0 := by rw [← h4]; rfl
   have h6 : decide (x.num < 0) = true := by rw [← h1]; rfl
   simp at h6; omega
  by_cases hd : x.den = 1
  ·have e : l = Go.Lib.itoa x.num := by rw [h.eq]; unfold tq; rw [if_pos hd]
   rw [e, chk_of (cut_miss (slash_itoa _)) hi.2, chkOf_zero, badForm_false]
   exact ⟨⟨Dig.plain_digits _, hne, fun h => by cases h⟩, h.num, by simp, fun h => by cases h⟩
  ·have e : l = Go.Lib.itoa x.num ++ 47 :: Go.Lib.decDigits x.den := by rw [h.eq]; unfold tq; rw [if_neg hd]
   rw [e, chk_of (cut_hit _ (slash_itoa _)) hi.2, chkOf_zero, badForm_false]
   have hx := x.den_pos
   refine ⟨⟨Dig.plain_digits _, hne, fun _ => ⟨Dig.plain_digits _, ?_, ?_⟩⟩, h.num, h.den, fun _ => ?_⟩
   ·intro e2
    have := Dig.val_digits x.den
    rw [e2] at this
    have h5 : x.den = 0 := by rw [← this]; rfl
    omega
   ·intro e2
    have := Dig.val_digits x.den
    rw [e2] at this
    exact hd (by rw [← this]; rfl)
   ·rw [Dig.val_digits, Dig.val_digits]; exact x.reduced
theorem itoa_inj {a b : Int} (h : Go.Lib.itoa a = Go.Lib.itoa b) : a = b := by
 have h1 := pre_itoa a
 have h2 := pre_itoa b
 rw [h] at h1
 have h3 : decide (a < 0) = decide (b < 0) := by rw [← h1.1, h2.1]
 have h4 := Dig.digits_inj (h1.2.symm.trans h2.2)
 rw [decide_eq_decide] at h3
 omega
theorem tq_inj {x y : Rat} (h : tq x = tq y) : x = y := by
 have hc : ∀ x : Rat, Go.Lib.cut (tq x) [47] = (Go.Lib.itoa x.num, if x.den = 1 then [] else Go.Lib.decDigits x.den, decide (x.den ≠ 1)) := fun x => by
  by_cases hd : x.den = 1
  ·unfold tq; rw [if_pos hd, if_pos hd, cut_miss (slash_itoa _)]; simp [hd]
  ·unfold tq; rw [if_neg hd, if_neg hd, cut_hit _ (slash_itoa _)]; simp [hd]
 have h1 := hc x
 rw [h, hc y] at h1
 simp only [Prod.mk.injEq] at h1
 obtain ⟨h2, h3, h4⟩ := h1
 apply Rat.ext (itoa_inj h2.symm)
 rw [decide_eq_decide] at h4
 by_cases hd : x.den = 1
 ·have hy : y.den = 1 := by
   rcases Classical.em (y.den = 1) with h5 | h5
   ·exact h5
   ·exact absurd hd (h4.1 h5)
  rw [hd, hy]
 ·have hy : y.den ≠ 1 := h4.2 hd
  rw [if_neg hd, if_neg hy] at h3
  exact (Dig.digits_inj h3).symm
theorem IsNum.inj {l : List UInt8} {x y : Rat} (h : IsNum l x) (h' : IsNum l y) : x = y := tq_inj (h.eq.symm.trans h'.eq)
end Go.Proofs.YtoccfcpggomlaaaGreatDoor
namespace Go.Proofs.YtoccfcpggomlaaaGreatDoor
open Go Go.RowKit

theorem from_fact {w : World} {l : List UInt8} {x : Rat} (h : IsNum l x) (hE : Env w) : Calls Tryz.prog 55 #[bs l] w (FracPost x w) := by
 rw [h.eq]; exact from_num hE h.dig
/-- Small fractions can be written. -/
theorem StrQ.small {x : Rat} (h1 : -9223372036854775808 < x.num) (h2 : x.num < 9223372036854775808) (h3 : x.den < 9223372036854775808) : StrQ x :=
 ⟨strAt_small ⟨by omega, by omega⟩ (by omega), strAt_small ⟨by omega, by omega⟩ (by omega)⟩
theorem give_fact {w : World} {s t : Int} {A B : Option Addr} {n c m d : Nat} {x : Rat} {l : List UInt8} {k : Int} (hl : giveT x = l) (hk : giveE x = k) (h : RepF w s A n c t B m d x) (hE : Env w) (hS : StrQ x) : Calls Tryz.prog 51 #[fv s A n c t B m d] w fun e w' => e = .returned (.tuple #[bs l, .int .i64 k]) ∧ Below w.heap.size w w' := by
 subst hl hk; exact give_num h hE hS
theorem decDigits_small {n : Nat} (h : n < 10 ^ 19) : (Go.Lib.decDigits n).length ≤ 19 := digits_short h
theorem lngQ_small {x : Rat} (h1 : x.num.natAbs < 10000000000000000000) (h2 : x.den < 10000000000000000000) : lngQ x = false := by
 have e1 := decDigits_small (n := x.num.natAbs) (by simpa using h1)
 have e2 := decDigits_small (n := x.den) (by simpa using h2)
 simp [lngQ, lng]; omega
theorem giveT_small {x : Rat} (h1 : x.num.natAbs < 10000000000000000000) (h2 : x.den < 10000000000000000000) : giveT x = tq x := by
 unfold giveT; rw [lngQ_small h1 h2]; rfl
theorem giveE_small {x : Rat} (h1 : x.num.natAbs < 10000000000000000000) (h2 : x.den < 10000000000000000000) : giveE x = 0 := by
 unfold giveE; rw [lngQ_small h1 h2]; rfl

/-- A fraction of two integers in lowest terms. -/
theorem divInt_num {a b n : Int} {d : Nat} (hd : 0 < d) (hg : Nat.gcd n.natAbs d = 1) (hb : b ≠ 0) (h : a * d = n * b) : (Rat.divInt a b).num = n ∧ (Rat.divInt a b).den = d := by
 have e : Rat.divInt a b = ⟨n, d, by omega, hg⟩ := by
  have : (⟨n, d, by omega, hg⟩ : Rat) = Rat.divInt n d := (Rat.num_divInt_den _).symm
  rw [this, Rat.divInt_eq_divInt_iff hb (by omega)]
  exact h
 rw [e]; exact ⟨rfl, rfl⟩

section
variable {w : World}
theorem parse_ex (hE : Env w) : Calls Tryz.prog 19 #[bs [49, 50, 46, 53, 48]] w fun e w' => e = .returned (.tuple #[bs [50, 53, 47, 50], .int .i64 0]) ∧ Below w.heap.size w w' := by
 have HE := qh hE
 obtain ⟨x, hx⟩ : ∃ x, Rat.divInt (1250 : Nat) (100 : Nat) = x := ⟨_, rfl⟩
 have hd := divInt_num (a := (1250 : Nat)) (b := (100 : Nat)) (n := 25) (d := 2) (by decide) (by decide) (by decide) (by decide)
 rw [hx] at hd
 have HX := qh hx
 have HS := qh (StrQ.small (x := x) (by omega) (by omega) (by omega))
 have HT : Hid (giveT x = [50, 53, 47, 50]) := qh (by
  rw [giveT_small (by omega) (by omega)]
  unfold tq; rw [if_neg (by omega), hd.1, hd.2]
  decide +kernel)
 have HK := qh (giveE_small (x := x) (by omega) (by omega))
 have HD : Hid (Digs [49, 50, 53, 48]) := qh (by unfold Digs; decide)
 have HV := qh (show Dig.val [49, 50, 53, 48] = 1250 from rfl)
 have HLP := qh (lim_dec (x := 100) (n := 2) (by decide) (by decide))
 have HL1 := qh (lim_dec (x := 1250) (n := 4) (by decide) (by decide))
 have HRD : Hid (∀ W, Calls Tryz.prog 44 #[bs [49, 50, 53, 48]] W (IntPost ((1250 : Nat) : Int) W)) := qh (fun W => HV.out ▸ readz_num (w := W) HD.out (by decide))
 have hpw : ∀ (W : World) (s : Int) (A : Option Addr) (n c : Nat), Rep W s A n c ((10 : Nat) : Int) → Calls Tryz.prog 48 #[iv s A n c, .int .i64 2] W (IntPost ((100 : Nat) : Int) W) := fun W s A n c h =>
  pow_num 10 2 h (by decide) (by decide) HLP.out
 have HPW := qh hpw
 clear hpw
 have qcat : (⟨#[49, 50]⟩ : ByteArray) ++ ⟨#[53, 48]⟩ = ⟨#[49, 50, 53, 48]⟩ := cat_bytes [49, 50] [53, 48]
 clear hE hx hd
 go_enter Tryz.func19, Tryz.ntmps19
 go_wp2_with (first
  | (go_at_call 41; ((with_reducible refine (trimPrefix_fact (m := [49, 50, 46, 53, 48]) rfl).mono ?_); rintro e1 w1 ⟨rfl, hb1⟩); obtain ⟨hc1, hf1⟩ := bcell hb1; (try simp only [dw] at hc1 hf1))
  | (go_at_call 42; (with_reducible show Calls _ _ #[_, .string ⟨#[47]⟩] _ _); ((with_reducible refine (cut_fact (a := [49, 50, 46, 53, 48]) (b := []) (g := false) (by decide) (HE.out.below (bq (by with_reducible repeat' first | assumption | constructor | go_size))) (by decide)).mono ?_); rintro e2 w2 ⟨rfl, hb2⟩); obtain ⟨hc2, hf2⟩ := bcell hb2; (try simp only [dw] at hc2 hf2))
  | ((go_at_call 42; (with_reducible show Calls _ _ #[_, .string ⟨#[46]⟩] _ _); ((with_reducible refine (cut_fact (a := [49, 50]) (b := [53, 48]) (g := true) (by decide) (HE.out.below (bq (by with_reducible repeat' first | assumption | constructor | go_size))) (by decide)).mono ?_); rintro e3 w3 ⟨rfl, hb3⟩); obtain ⟨hc3, hf3⟩ := bcell hb3; (try simp only [dw] at hc3 hf3)); have hw3 : w.heap.size ≤ w3.heap.size := Below.size (show Below w.heap.size w w3 from (bq (by with_reducible repeat' first | assumption | constructor | go_size))))
  | ((go_at_call 43; (with_reducible show Calls _ _ #[bs [49, 50]] _ _); ((with_reducible refine (digits_fact (l := [49, 50]) (g := true) (by decide) (by decide)).mono ?_); rintro e4 w4 ⟨rfl, hb4⟩); obtain ⟨hc4, hf4⟩ := bcell hb4; (try simp only [dw] at hc4 hf4)); have hy4_0 : w3.heap.size < w4.heap.size := (by have := hb4.size; (try simp at this); omega))
  | ((go_at_call 43; (with_reducible show Calls _ _ #[bs [53, 48]] _ _); ((with_reducible refine (digits_fact (l := [53, 48]) (g := true) (by decide) (by decide)).mono ?_); rintro e5 w5 ⟨rfl, hb5⟩); obtain ⟨hc5, hf5⟩ := bcell hb5; (try simp only [dw] at hc5 hf5)); have hy5_0 : w3.heap.size < w5.heap.size := (by have := hb5.size; (try simp at this); omega))
  | ((go_at_call 44; ((with_reducible refine (HRD.out _).mono ?_); rintro e6 w6 ⟨s6, A6, n6, c6, rfl, hr6, hb6⟩); obtain ⟨hc6, hf6⟩ := bcell hb6; (try simp only [dw] at hc6 hf6)); have hy6_0 : w3.heap.size < w6.heap.size := (by have := hb6.size; (try simp at this); omega))
  | ((go_at_call 47; ((with_reducible refine (of_ten _).mono ?_); rintro e7 w7 ⟨s7, A7, n7, c7, rfl, hr7, hb7⟩); obtain ⟨hc7, hf7⟩ := bcell hb7; (try simp only [dw] at hc7 hf7)); have hy7_0 : w3.heap.size < w7.heap.size := (by have := hb7.size; (try simp at this); omega))
  | ((go_at_call 48; ((with_reducible refine (HPW.out _ _ _ _ _ hr7).mono ?_); rintro e8 w8 ⟨s8, A8, n8, c8, rfl, hr8, hb8⟩); obtain ⟨hc8, hf8⟩ := bcell hb8; (try simp only [dw] at hc8 hf8)); have hy8_0 : w3.heap.size < w8.heap.size := (by have := hb8.size; (try simp at this); omega))
  | ((go_at_call 46; ((with_reducible refine (make_fact HX.out (by with_reducible repeat first | assumption | apply rD | apply rN | apply rA | refine rP ?_ rfl (by simp [go_sem, hc8]) | refine rB ?_ ‹_›) hr8 HL1.out HLP.out (by decide)).mono ?_); rintro e9 w9 ⟨s9, A9, n9, c9, t9, B9, m9, d9, rfl, ⟨hr9, hq9⟩, hb9⟩); obtain ⟨hc9, hf9⟩ := bcell hb9; (try simp only [dw] at hc9 hf9)); have hy9_0 : w3.heap.size < w9.heap.size := (by have := hb9.size; (try simp at this); omega))
  | (go_at_call 51; ((with_reducible refine (give_fact HT.out HK.out ⟨(by with_reducible repeat first | assumption | apply rD | apply rN | apply rA | refine rP ?_ rfl (by simp [go_sem, hc9, hy9_0, hy8_0, hc8, hy7_0, hc7, hy6_0, hc6, hy5_0, hc5, hy4_0, hc4]) | refine rB ?_ ‹_›), (by with_reducible repeat first | assumption | apply rD | apply rN | apply rA | refine rP ?_ rfl (by simp [go_sem, hc9, hy9_0, hy8_0, hc8, hy7_0, hc7, hy6_0, hc6, hy5_0, hc5, hy4_0, hc4]) | refine rB ?_ ‹_›)⟩ (HE.out.below (bq (by with_reducible repeat' first | assumption | constructor | go_size))) HS.out).mono ?_); rintro e10 w10 ⟨rfl, hb10⟩); obtain ⟨hc10, hf10⟩ := bcell hb10; (try simp only [dw] at hc10 hf10)))
 go_ret2
 exact ⟨rfl, (bq (by with_reducible repeat' first | assumption | constructor | go_size))⟩
end

def nameN (n : Nat) : Bool := (decide (97 ≤ n) && decide (n ≤ 122)) || (decide (65 ≤ n) && decide (n ≤ 90)) || (decide (48 ≤ n) && decide (n ≤ 57)) || n == 45 || n == 95 || n == 46
def isName (l : List UInt8) : Bool := l.all (fun c => nameN c.toNat) && decide (1 ≤ l.length) && decide (l.length ≤ 24)
theorem nameN_lt {n : Nat} (h : nameN n = true) : n < 128 := by
 simp [nameN] at h; omega
theorem rune_at (s : ByteArray) (pos : Nat) (h : pos < s.size) : ∃ r k : Nat, Utf8.decode s pos = (r, k) ∧ 1 ≤ k ∧ nameN r = nameN (s[pos]'h).toNat ∧ (nameN r = true → k = 1) := by
 by_cases ha : (s[pos]'h).toNat < 128
 ·exact ⟨_, _, decode_ascii s pos h ha, by omega, rfl, fun _ => rfl⟩
 ·have h2 := decode_high s pos h (by omega)
  refine ⟨(Utf8.decode s pos).1, (Utf8.decode s pos).2, rfl, h2.2, ?_, ?_⟩
  ·have e1 : nameN (Utf8.decode s pos).1 = false := by
    rcases hb : nameN (Utf8.decode s pos).1 with _ | _
    ·rfl
    ·have := nameN_lt hb; omega
   have e2 : nameN (s[pos]'h).toNat = false := by
    rcases hb : nameN (s[pos]'h).toNat with _ | _
    ·rfl
    ·have := nameN_lt hb; omega
   rw [e1, e2]
  ·intro hb; have := nameN_lt hb; omega

theorem below_iter (w : World) (s : ByteArray) (pos : Nat) : Below w.heap.size w (w.iter s pos) := (Below.refl _ _).alloc (Nat.le_refl _) _
section
variable {w : World} {l : List UInt8}
theorem isName_num : Calls Tryz.prog 27 #[bs l] w fun e w' => e = .returned (.bool (isName l)) ∧ Below w.heap.size w w' := by
 obtain ⟨R, hR⟩ : ∃ R, isName l = R := ⟨_, rfl⟩
 rw [hR]
 have HR := qh hR
 clear hR
 go_enter Tryz.func27, Tryz.ntmps27
 go_wp2
 go_loopw [4] (fun _ wr => ∃ pos : Nat, wr = w.iter ⟨l.toArray⟩ pos ∧ pos ≤ l.length ∧ (l.take pos).all (fun c => nameN c.toNat) = true) (fun _ wr => l.length - wr.iterPos w.heap.size)
 case atStart => exact ⟨0, rfl, by omega, by simp⟩
 case round =>
  obtain ⟨pos, rfl, hle, hall⟩ := hrel
  by_cases hp : pos < l.length
  ·have hps : pos < (⟨l.toArray⟩ : ByteArray).size := by simpa [ByteArray.size] using hp
   obtain ⟨r, k, hd, hk1, hn, hk⟩ := rune_at ⟨l.toArray⟩ pos hps
   have hnx : ∀ ty, (Instr.next (.pointer (some ⟨w.heap.size, 0, none⟩)) true ty).run Tryz.prog (w.iter ⟨l.toArray⟩ pos) = .ok (.tuple #[.bool true, .int .i64 pos, .int .i32 (r : Int)]) (w.iter ⟨l.toArray⟩ (pos + k)) := fun ty => by
    have := run_next_any (P := Tryz.prog) w ⟨l.toArray⟩ pos ty hps
    rwa [hd] at this
   have hc : (⟨l.toArray⟩ : ByteArray)[pos]'hps = l[pos] := by simp [ByteArray.getElem_eq_getElem_data]
   rw [hc] at hn
   cases hg : nameN r with
   | true =>
     have hk' := hk hg
     subst hk'
     have HP := qh hp
     have HALL := qh (show (l.take (pos + 1)).all (fun c => nameN c.toNat) = true by
      rw [List.take_succ_eq_append_getElem hp, List.all_append, hall]; simp [← hn, hg])
     clear hd hk1 hk hn hc hall hle hps hp
     have hg2 := hg
     simp only [nameN, Bool.or_eq_true, Bool.and_eq_true, decide_eq_true_eq, beq_iff_eq] at hg2
     clear hg
     rcases hg2 with ((((h1 | h1) | h1) | h1) | h1) | h1
     ·have q1 : decide ((97 : Int) ≤ (r : Int)) = true := by simp; omega
      have q2 : decide ((r : Int) ≤ 122) = true := by simp; omega
      have q3 : decide ((65 : Int) ≤ (r : Int)) = true := by simp; omega
      have q4 : decide ((r : Int) ≤ 90) = false := by simp; omega
      have q5 : decide ((48 : Int) ≤ (r : Int)) = true := by simp; omega
      have q6 : decide ((r : Int) ≤ 57) = false := by simp; omega
      have q7 : ((r : Int) != 45) = true := by simp; omega
      have q8 : ((r : Int) != 95) = true := by simp; omega
      have q9 : ((r : Int) != 46) = true := by simp; omega
      clear h1
      go_wp2
      go_roundw
      case rel =>
       exact ⟨pos + 1, rfl, by have := HP.out; omega, HALL.out⟩
      case measure =>
       have := HP.out
       simp
       omega
     ·have q1 : decide ((97 : Int) ≤ (r : Int)) = false := by simp; omega
      have q2 : decide ((r : Int) ≤ 122) = true := by simp; omega
      have q3 : decide ((65 : Int) ≤ (r : Int)) = true := by simp; omega
      have q4 : decide ((r : Int) ≤ 90) = true := by simp; omega
      have q5 : decide ((48 : Int) ≤ (r : Int)) = true := by simp; omega
      have q6 : decide ((r : Int) ≤ 57) = false := by simp; omega
      have q7 : ((r : Int) != 45) = true := by simp; omega
      have q8 : ((r : Int) != 95) = true := by simp; omega
      have q9 : ((r : Int) != 46) = true := by simp; omega
      clear h1
      go_wp2
      go_roundw
      case rel =>
       exact ⟨pos + 1, rfl, by have := HP.out; omega, HALL.out⟩
      case measure =>
       have := HP.out
       simp
       omega
     ·have q1 : decide ((97 : Int) ≤ (r : Int)) = false := by simp; omega
      have q2 : decide ((r : Int) ≤ 122) = true := by simp; omega
      have q3 : decide ((65 : Int) ≤ (r : Int)) = false := by simp; omega
      have q4 : decide ((r : Int) ≤ 90) = true := by simp; omega
      have q5 : decide ((48 : Int) ≤ (r : Int)) = true := by simp; omega
      have q6 : decide ((r : Int) ≤ 57) = true := by simp; omega
      have q7 : ((r : Int) != 45) = true := by simp; omega
      have q8 : ((r : Int) != 95) = true := by simp; omega
      have q9 : ((r : Int) != 46) = true := by simp; omega
      clear h1
      go_wp2
      go_roundw
      case rel =>
       exact ⟨pos + 1, rfl, by have := HP.out; omega, HALL.out⟩
      case measure =>
       have := HP.out
       simp
       omega
     ·have q1 : decide ((97 : Int) ≤ (r : Int)) = false := by simp; omega
      have q2 : decide ((r : Int) ≤ 122) = true := by simp; omega
      have q3 : decide ((65 : Int) ≤ (r : Int)) = false := by simp; omega
      have q4 : decide ((r : Int) ≤ 90) = true := by simp; omega
      have q5 : decide ((48 : Int) ≤ (r : Int)) = false := by simp; omega
      have q6 : decide ((r : Int) ≤ 57) = true := by simp; omega
      have q7 : ((r : Int) != 45) = false := by simp; omega
      have q8 : ((r : Int) != 95) = true := by simp; omega
      have q9 : ((r : Int) != 46) = true := by simp; omega
      clear h1
      go_wp2
      go_roundw
      case rel =>
       exact ⟨pos + 1, rfl, by have := HP.out; omega, HALL.out⟩
      case measure =>
       have := HP.out
       simp
       omega
     ·have q1 : decide ((97 : Int) ≤ (r : Int)) = false := by simp; omega
      have q2 : decide ((r : Int) ≤ 122) = true := by simp; omega
      have q3 : decide ((65 : Int) ≤ (r : Int)) = true := by simp; omega
      have q4 : decide ((r : Int) ≤ 90) = false := by simp; omega
      have q5 : decide ((48 : Int) ≤ (r : Int)) = true := by simp; omega
      have q6 : decide ((r : Int) ≤ 57) = false := by simp; omega
      have q7 : ((r : Int) != 45) = true := by simp; omega
      have q8 : ((r : Int) != 95) = false := by simp; omega
      have q9 : ((r : Int) != 46) = true := by simp; omega
      clear h1
      go_wp2
      go_roundw
      case rel =>
       exact ⟨pos + 1, rfl, by have := HP.out; omega, HALL.out⟩
      case measure =>
       have := HP.out
       simp
       omega
     ·have q1 : decide ((97 : Int) ≤ (r : Int)) = false := by simp; omega
      have q2 : decide ((r : Int) ≤ 122) = true := by simp; omega
      have q3 : decide ((65 : Int) ≤ (r : Int)) = false := by simp; omega
      have q4 : decide ((r : Int) ≤ 90) = true := by simp; omega
      have q5 : decide ((48 : Int) ≤ (r : Int)) = false := by simp; omega
      have q6 : decide ((r : Int) ≤ 57) = true := by simp; omega
      have q7 : ((r : Int) != 45) = true := by simp; omega
      have q8 : ((r : Int) != 95) = true := by simp; omega
      have q9 : ((r : Int) != 46) = false := by simp; omega
      clear h1
      go_wp2
      go_roundw
      case rel =>
       exact ⟨pos + 1, rfl, by have := HP.out; omega, HALL.out⟩
      case measure =>
       have := HP.out
       simp
       omega
   | false =>
     have hbad : isName l = false := by
      have : l.all (fun c => nameN c.toNat) = false := by
       rw [Bool.eq_false_iff]
       intro h
       have := List.all_eq_true.1 h _ (List.getElem_mem hp)
       rw [← hn, hg] at this
       cases this
      simp [isName, this]
     have hR : R = false := by rw [← HR.out]; exact hbad
     subst hR
     clear hbad hd hk1 hk hn hc hall hle hps hp
     have h1 : r < 45 ∨ r = 47 ∨ (58 ≤ r ∧ r ≤ 64) ∨ (91 ≤ r ∧ r ≤ 94) ∨ r = 96 ∨ 123 ≤ r := by
      simp [nameN] at hg; omega
     clear hg
     rcases h1 with h1 | h1 | h1 | h1 | h1 | h1
     ·have q1 : decide ((97 : Int) ≤ (r : Int)) = false := by simp; omega
      have q2 : decide ((r : Int) ≤ 122) = true := by simp; omega
      have q3 : decide ((65 : Int) ≤ (r : Int)) = false := by simp; omega
      have q4 : decide ((r : Int) ≤ 90) = true := by simp; omega
      have q5 : decide ((48 : Int) ≤ (r : Int)) = false := by simp; omega
      have q6 : decide ((r : Int) ≤ 57) = true := by simp; omega
      have q7 : ((r : Int) != 45) = true := by simp; omega
      have q8 : ((r : Int) != 95) = true := by simp; omega
      have q9 : ((r : Int) != 46) = true := by simp; omega
      clear h1
      go_wp2
      go_ret
      exact ⟨by simp, below_iter w _ _⟩
     ·have q1 : decide ((97 : Int) ≤ (r : Int)) = false := by simp; omega
      have q2 : decide ((r : Int) ≤ 122) = true := by simp; omega
      have q3 : decide ((65 : Int) ≤ (r : Int)) = false := by simp; omega
      have q4 : decide ((r : Int) ≤ 90) = true := by simp; omega
      have q5 : decide ((48 : Int) ≤ (r : Int)) = false := by simp; omega
      have q6 : decide ((r : Int) ≤ 57) = true := by simp; omega
      have q7 : ((r : Int) != 45) = true := by simp; omega
      have q8 : ((r : Int) != 95) = true := by simp; omega
      have q9 : ((r : Int) != 46) = true := by simp; omega
      clear h1
      go_wp2
      go_ret
      exact ⟨by simp, below_iter w _ _⟩
     ·have q1 : decide ((97 : Int) ≤ (r : Int)) = false := by simp; omega
      have q2 : decide ((r : Int) ≤ 122) = true := by simp; omega
      have q3 : decide ((65 : Int) ≤ (r : Int)) = false := by simp; omega
      have q4 : decide ((r : Int) ≤ 90) = true := by simp; omega
      have q5 : decide ((48 : Int) ≤ (r : Int)) = true := by simp; omega
      have q6 : decide ((r : Int) ≤ 57) = false := by simp; omega
      have q7 : ((r : Int) != 45) = true := by simp; omega
      have q8 : ((r : Int) != 95) = true := by simp; omega
      have q9 : ((r : Int) != 46) = true := by simp; omega
      clear h1
      go_wp2
      go_ret
      exact ⟨by simp, below_iter w _ _⟩
     ·have q1 : decide ((97 : Int) ≤ (r : Int)) = false := by simp; omega
      have q2 : decide ((r : Int) ≤ 122) = true := by simp; omega
      have q3 : decide ((65 : Int) ≤ (r : Int)) = true := by simp; omega
      have q4 : decide ((r : Int) ≤ 90) = false := by simp; omega
      have q5 : decide ((48 : Int) ≤ (r : Int)) = true := by simp; omega
      have q6 : decide ((r : Int) ≤ 57) = false := by simp; omega
      have q7 : ((r : Int) != 45) = true := by simp; omega
      have q8 : ((r : Int) != 95) = true := by simp; omega
      have q9 : ((r : Int) != 46) = true := by simp; omega
      clear h1
      go_wp2
      go_ret
      exact ⟨by simp, below_iter w _ _⟩
     ·have q1 : decide ((97 : Int) ≤ (r : Int)) = false := by simp; omega
      have q2 : decide ((r : Int) ≤ 122) = true := by simp; omega
      have q3 : decide ((65 : Int) ≤ (r : Int)) = true := by simp; omega
      have q4 : decide ((r : Int) ≤ 90) = false := by simp; omega
      have q5 : decide ((48 : Int) ≤ (r : Int)) = true := by simp; omega
      have q6 : decide ((r : Int) ≤ 57) = false := by simp; omega
      have q7 : ((r : Int) != 45) = true := by simp; omega
      have q8 : ((r : Int) != 95) = true := by simp; omega
      have q9 : ((r : Int) != 46) = true := by simp; omega
      clear h1
      go_wp2
      go_ret
      exact ⟨by simp, below_iter w _ _⟩
     ·have q1 : decide ((97 : Int) ≤ (r : Int)) = true := by simp; omega
      have q2 : decide ((r : Int) ≤ 122) = false := by simp; omega
      have q3 : decide ((65 : Int) ≤ (r : Int)) = true := by simp; omega
      have q4 : decide ((r : Int) ≤ 90) = false := by simp; omega
      have q5 : decide ((48 : Int) ≤ (r : Int)) = true := by simp; omega
      have q6 : decide ((r : Int) ≤ 57) = false := by simp; omega
      have q7 : ((r : Int) != 45) = true := by simp; omega
      have q8 : ((r : Int) != 95) = true := by simp; omega
      have q9 : ((r : Int) != 46) = true := by simp; omega
      clear h1
      go_wp2
      go_ret
      exact ⟨by simp, below_iter w _ _⟩
  ·have hnx : ∀ ty, (Instr.next (.pointer (some ⟨w.heap.size, 0, none⟩)) true ty).run Tryz.prog (w.iter ⟨l.toArray⟩ pos) = _ := fun ty => run_next_end w ⟨l.toArray⟩ pos ty (by simpa [ByteArray.size] using hp)
   have e : isName l = (decide (1 ≤ l.length) && decide (l.length ≤ 24)) := by
    unfold isName
    rw [List.take_of_length_le (by omega)] at hall
    rw [hall]; simp
   have hR : R = (decide (1 ≤ l.length) && decide (l.length ≤ 24)) := by rw [← HR.out]; exact e
   clear HR
   subst hR
   have q1 : decide ((1 : Int) ≤ (l.length : Int)) = decide (1 ≤ l.length) := by rw [decide_eq_decide]; omega
   have q2 : decide ((l.length : Int) ≤ 24) = decide (l.length ≤ 24) := by rw [decide_eq_decide]; omega
   clear hp hall hle e
   obtain ⟨b1, hb1⟩ : ∃ b, decide (1 ≤ l.length) = b := ⟨_, rfl⟩
   obtain ⟨b2, hb2⟩ : ∃ b, decide (l.length ≤ 24) = b := ⟨_, rfl⟩
   rw [hb1] at q1
   rw [hb2] at q2
   have HB := qh (And.intro hb1 hb2)
   clear hb1 hb2
   cases b1
   ·go_wp2
    go_ret
    exact ⟨by rw [HB.out.1, HB.out.2]; simp, below_iter w _ _⟩
   ·go_wp2
    go_ret
    exact ⟨by rw [HB.out.1, HB.out.2]; simp, below_iter w _ _⟩
theorem isName_fact {g : Bool} (hg : isName l = g) : Calls Tryz.prog 27 #[bs l] w fun e w' => e = .returned (.bool g) ∧ Below w.heap.size w w' := hg ▸ isName_num
end

/-- A slice of integers. -/
structure Iv (w : World) (A : Option Addr) (n : Nat) (zs : List Int) : Prop where
 len : zs.length = n
 rng : ∀ z ∈ zs, R64 z
 at_ : 0 < n → ∃ b o, A = some ⟨b, o, none⟩ ∧ b < w.heap.size ∧ ∀ j, j < n → w.cell? ⟨b, o + j, none⟩ = some (.int .i64 (zs.getD j 0))
theorem Iv.below {w w' : World} {A : Option Addr} {n : Nat} {zs : List Int} (h : Iv w A n zs) (hb : Below w.heap.size w w') : Iv w' A n zs :=
 ⟨h.len, h.rng, fun hn => by
   obtain ⟨b, o, e, h1, h2⟩ := h.at_ hn
   exact ⟨b, o, e, Nat.lt_of_lt_of_le h1 hb.size, fun j hj => by rw [hb.cell (p := ⟨b, o + j, none⟩) h1]; exact h2 j hj⟩⟩

/-- What checking weights comes to: the sum and no error, or 0 and an error. -/
def cwGo (s : Int) : List Int → Int × Int
 | [] => if s = 0 then (0, 6) else (s, 0)
 | x :: r => if x < 0 ∨ 999999999 < x then (0, 3) else cwGo (s + x) r
def cw (ws : List Int) : Int × Int := cwGo 0 ws
theorem drop_cons {zs : List Int} {i : Nat} (h : i < zs.length) : zs.drop i = zs.getD i 0 :: zs.drop (i + 1) := by
 rw [List.drop_eq_getElem_cons h, List.getD_eq_getElem?_getD, List.getElem?_eq_getElem h]; rfl

section
variable {w : World} {A : Option Addr} {n c : Nat} {ws : List Int}
theorem checkWeights_num (h : Iv w A n ws) (hn : n ≤ 100000) : Calls Tryz.prog 28 #[.slice A n c] w fun e w' => e = .returned (.tuple #[.int .i64 (cw ws).1, .int .i64 (cw ws).2]) ∧ Below w.heap.size w w' := by
 obtain ⟨R, hR⟩ : ∃ R, cw ws = R := ⟨_, rfl⟩
 rw [hR]
 have HR := qh hR
 have H := qh h
 have HN := qh hn
 clear hR h hn
 go_enter Tryz.func28, Tryz.ntmps28
 go_wp2
 go_loopw [4, 9] (fun v u wr => ∃ (s : Int) (i : Nat), v = .int .i64 s ∧ u = .int .i64 (i : Int) ∧ wr = w ∧ i ≤ n ∧ 0 ≤ s ∧ s ≤ i * 999999999 ∧ cwGo s (ws.drop i) = R) (fun _ u _ => n - (intOf u).toNat)
 case atStart => exact ⟨0, 0, rfl, rfl, rfl, by omega, by omega, by omega, HR.out⟩
 case round =>
  obtain ⟨s, i, rfl, rfl, rfl, hin, hs0, hs1, hc⟩ := hrel
  by_cases hi : i < n
  ·have q0 : decide ((i : Int) < (n : Int)) = true := by simp; exact hi
   obtain ⟨b, o, rfl, hb, hcell⟩ := H.out.at_ (by omega)
   have hx := hcell i hi
   rw [drop_cons (by rw [H.out.len]; exact hi)] at hc
   obtain ⟨x, hxx⟩ : ∃ x, ws.getD i 0 = x := ⟨_, rfl⟩
   rw [hxx] at hx hc
   have hnn := HN.out
   clear hcell
   by_cases hx0 : x < 0
   ·have hR : R = (0, 3) := by rw [← hc]; unfold cwGo; rw [if_pos (Or.inl hx0)]
    have q1 : decide (x < 0) = true := by simp; exact hx0
    subst hR
    clear hc HR hx0
    go_wp2
    go_ret2
    exact ⟨rfl, (bq (by with_reducible repeat' first | assumption | constructor | go_size))⟩
   ·have q1 : decide (x < 0) = false := by simp; omega
    by_cases hx1 : 999999999 < x
    ·have hR : R = (0, 3) := by rw [← hc]; unfold cwGo; rw [if_pos (Or.inr hx1)]
     have q2 : decide (999999999 < x) = true := by simp; exact hx1
     subst hR
     clear hc HR hx0 hx1
     go_wp2
     go_ret2
     exact ⟨rfl, (bq (by with_reducible repeat' first | assumption | constructor | go_size))⟩
    ·have q2 : decide (999999999 < x) = false := by simp; omega
     have hc2 : cwGo (s + x) (ws.drop (i + 1)) = R := by
      rw [← hc]; conv => rhs; unfold cwGo
      rw [if_neg (by omega)]
     have HC := qh hc2
     have hw : wrap64 (s + x) = s + x := by unfold wrap64; omega
     have HS := qh (show 0 ≤ s + x ∧ s + x ≤ ((i + 1 : Nat) : Int) * 999999999 by omega)
     have HI := qh hi
     clear hc hc2 hx0 hx1 hs0 hs1
     go_wp2
     exact ⟨⟨s + x, i + 1, by simp [hw], by simp, by first | rfl | trivial, HI.out, HS.out.1, HS.out.2, HC.out⟩, by have := HI.out; simp [intOf]; omega⟩
  ·have q0 : decide (i < n) = false := by simp; omega
   rw [List.drop_eq_nil_of_le (by rw [H.out.len]; omega)] at hc
   by_cases h0 : s = 0
   ·subst h0
    have hR : R = (0, 6) := by rw [← hc]; rfl
    subst hR
    clear hc HR hi
    go_wp2
    go_ret2
    exact ⟨rfl, (bq (by with_reducible repeat' first | assumption | constructor | go_size))⟩
   ·have hR : R = (s, 0) := by rw [← hc]; unfold cwGo; rw [if_neg h0]
    have q1 : (s == 0) = false := by rw [beq_eq_false_iff_ne]; exact h0
    subst hR
    clear hc HR hi h0
    go_wp2
    go_ret2
    exact ⟨rfl, (bq (by with_reducible repeat' first | assumption | constructor | go_size))⟩
end

theorem compare_quiet (x y : Int) (W : World) (n : Nat) : Calls Tryz.prog 31 #[.int .i64 x, .int .i64 y] (W.drewN n) fun e w' => e = .returned (.int .i64 (Lib.compareInt x y)) ∧ ∃ m, w' = W.drewN m :=
 (Tryz.cmp_Compare_int x y (W.drewN n)).mono fun e w' ⟨he, hw⟩ => ⟨he, n, hw⟩
section
variable {W : World} {p2 p3 p4 : Nat} {bw ow n c : Nat} {ws : List Int} {t s : Int}
theorem app1_num {i j : Nat} (h2 : W.cell? ⟨p2, 0, none⟩ = some (.int .i64 t)) (h3 : W.cell? ⟨p3, 0, none⟩ = some (.slice (some ⟨bw, ow, none⟩) n c)) (h4 : W.cell? ⟨p4, 0, none⟩ = some (.int .i64 s))
  (hw : ∀ j, j < n → W.cell? ⟨bw, ow + j, none⟩ = some (.int .i64 (ws.getD j 0))) (hi : i < n) (hj : j < n) (ht0 : 0 ≤ t) (ht1 : t ≤ 999999999) (hws : ∀ j, 0 ≤ ws.getD j 0 ∧ ws.getD j 0 ≤ 999999999) (hs : 0 < s) :
  Calls Tryz.prog 30 #[.int .i64 (i : Int), .int .i64 (j : Int), .pointer (some ⟨p2, 0, none⟩), .pointer (some ⟨p3, 0, none⟩), .pointer (some ⟨p4, 0, none⟩)] W fun e w' => e = .returned (.int .i64 (Lib.compareInt (t * ws.getD j 0 % s) (t * ws.getD i 0 % s))) ∧ ∃ q, w' = W.drewN q := by
 have c1 := hw i hi
 have c2 := hw j hj
 obtain ⟨x, hx⟩ : ∃ x, ws.getD i 0 = x := ⟨_, rfl⟩
 obtain ⟨y, hy⟩ : ∃ x, ws.getD j 0 = x := ⟨_, rfl⟩
 have hx0 := hws i
 have hy0 := hws j
 rw [hx] at c1 hx0 ⊢
 rw [hy] at c2 hy0 ⊢
 have b1 : 0 ≤ t * x := Int.mul_nonneg ht0 hx0.1
 have b2 : 0 ≤ t * y := Int.mul_nonneg ht0 hy0.1
 have b3 : t * x ≤ 999999999 * 999999999 := Int.mul_le_mul ht1 hx0.2 hx0.1 (by omega)
 have b4 : t * y ≤ 999999999 * 999999999 := Int.mul_le_mul ht1 hy0.2 hy0.1 (by omega)
 have w1 : wrap64 (t * x) = t * x := by unfold wrap64; omega
 have w2 : wrap64 (t * y) = t * y := by unfold wrap64; omega
 have r1 : (t * x).tmod s = t * x % s := Int.tmod_eq_emod_of_nonneg b1
 have r2 : (t * y).tmod s = t * y % s := Int.tmod_eq_emod_of_nonneg b2
 have s0 : (s == 0) = false := by rw [beq_eq_false_iff_ne]; omega
 have s1 : s ≠ 0 := by omega
 clear b1 b2 b3 b4 hx hy hx0 hy0 hws hw ht0 ht1
 go_enter Tryz.func30, Tryz.ntmps30
 go_wp2
 go_quiet ((go_at_call 31; with_reducible exact compare_quiet _ _ _ _))
 go_wp2
 go_ret
 exact ⟨rfl, _, rfl⟩
end
/-- A place as a value. -/
def encF {n : Nat} (i : Fin n) : Value := .int .i64 ((i.val : Nat) : Int)
theorem one_encF {n : Nat} : OneCell (encF (n := n)) := fun _ => rfl
theorem cell_sortWorld {α : Type} [Inhabited α] (enc : α → Value) (W : World) (blk off n : Nat) (dk : Array α) (os : Array Obj) (a : Addr) (h1 : a.block ≠ blk) (h2 : a.block < W.heap.size) : (sortWorld enc W blk off n dk os).cell? a = W.cell? a := by
 unfold sortWorld
 rw [Sort.cell?_grow _ _ _ (by rw [Sort.size_putRow]; exact h2), Sort.cell?_putRow_other enc _ blk off dk a (Or.inl h1)]
 rfl
/-- The order of two places by their remainders. -/
def cfR (t s : Int) (ws : List Int) {n : Nat} (i j : Fin n) : Int := Lib.compareInt (t * ws.getD j.val 0 % s) (t * ws.getD i.val 0 % s)
/-- What the comparison of places reads. -/
structure AppW (W : World) (blk p2 p3 p4 bw ow n c : Nat) (ws : List Int) (t s : Int) : Prop where
 c2 : W.cell? ⟨p2, 0, none⟩ = some (.int .i64 t)
 c3 : W.cell? ⟨p3, 0, none⟩ = some (.slice (some ⟨bw, ow, none⟩) n c)
 c4 : W.cell? ⟨p4, 0, none⟩ = some (.int .i64 s)
 cw : ∀ j, j < n → W.cell? ⟨bw, ow + j, none⟩ = some (.int .i64 (ws.getD j 0))
 n2 : p2 ≠ blk
 n3 : p3 ≠ blk
 n4 : p4 ≠ blk
 nw : bw ≠ blk
 s2 : p2 < W.heap.size
 s3 : p3 < W.heap.size
 s4 : p4 < W.heap.size
 sw : bw < W.heap.size
 t0 : 0 ≤ t
 t1 : t ≤ 999999999
 ws0 : ∀ j, 0 ≤ ws.getD j 0 ∧ ws.getD j 0 ≤ 999999999
 s0 : 0 < s
section
variable {W : World} {blk p2 p3 p4 bw ow m c cap : Nat} {ws : List Int} {t s : Int}
abbrev cbA (p2 p3 p4 : Nat) : Array Value := #[.pointer (some ⟨p2, 0, none⟩), .pointer (some ⟨p3, 0, none⟩), .pointer (some ⟨p4, 0, none⟩)]
theorem cmpReads (h : AppW W blk p2 p3 p4 bw ow (m + 1) c ws t s) : CmpReads Tryz.prog 30 (cbA p2 p3 p4) (encF (n := m + 1)) (cfR t s ws) blk 0 (m + 1) W := fun k os dk _ x y =>
 app1_num (i := x.val) (j := y.val) (W := sortWorld encF W blk 0 k dk os) (by rw [cell_sortWorld _ _ _ _ _ _ _ _ h.n2 h.s2]; exact h.c2) (by rw [cell_sortWorld _ _ _ _ _ _ _ _ h.n3 h.s3]; exact h.c3) (by rw [cell_sortWorld _ _ _ _ _ _ _ _ h.n4 h.s4]; exact h.c4)
  (fun j hj => by rw [cell_sortWorld _ _ _ _ _ _ _ _ h.nw h.sw]; exact h.cw j hj) x.isLt y.isLt h.t0 h.t1 h.ws0 h.s0
theorem insSort_num {n : Nat} (hn : n = m + 1) (h : AppW W blk p2 p3 p4 bw ow (m + 1) c ws t s) (d : Array (Fin (m + 1))) (hd : d.size = m + 1) (hH : Sort.Holds encF W blk 0 d) (hm : m < 1000000) :
  Calls Tryz.prog 111 #[.slice (some ⟨blk, 0, none⟩) n cap, .int .i64 0, .int .i64 (n : Int), .func (.func 30) #[] (cbA p2 p3 p4)] W fun e w' => e = .returned (.tuple #[]) ∧ ∃ n, w' = (Sort.putRow encF W blk 0 (Sort.insertionSort (ltOf (cfR t s ws)) d 0 d.size)).drewN n := by
 subst hn
 have := Tryz.insertionSortCmpFunc_one encF one_encF (cfR t s ws) 30 (cbA p2 p3 p4) blk 0 cap 0 d.size d W (enters_of Tryz.func30 (by kernel_rfl) rfl) (by rw [hd]; exact cmpReads h) hH (Nat.zero_le _) (Nat.le_refl _) (by omega)
 rw [hd] at this ⊢
 exact this
abbrev StablePost (W : World) (blk : Nat) (t s : Int) (ws : List Int) (d : Array (Fin (m + 1))) (e : Ending) (w' : World) : Prop := e = .returned (.tuple #[]) ∧ ∃ n, w' = (Sort.putRow encF W blk 0 (Sort.insertionSort (ltOf (cfR t s ws)) d 0 d.size)).drewN n
theorem stable0_num {n : Nat} (hn : n = m + 1) (h : AppW W blk p2 p3 p4 bw ow (m + 1) c ws t s) (d : Array (Fin (m + 1))) (hd : d.size = m + 1) (hH : Sort.Holds encF W blk 0 d) (hm : m < 19) :
  Calls Tryz.prog 71 #[.slice (some ⟨blk, 0, none⟩) n cap, .int .i64 (n : Int), .func (.func 30) #[] (cbA p2 p3 p4)] W (StablePost W blk t s ws d) := by
 have HI := qh (insSort_num (cap := cap) hn h d hd hH (by omega))
 show Calls _ _ _ _ fun e w' => _
 unfold StablePost
 obtain ⟨V, hV⟩ : ∃ V, Sort.putRow encF W blk 0 (Sort.insertionSort (ltOf (cfR t s ws)) d 0 d.size) = V := ⟨_, rfl⟩
 rw [hV] at HI ⊢
 have q1 : decide ((20 : Int) ≤ (n : Int)) = false := by simp; omega
 have q2 : decide ((20 : Int) < (n : Int)) = false := by simp; omega
 clear h hd hH hm hV hn
 go_enter Tryz.func71, Tryz.ntmps71
 go_wp2
 go_loopw [7, 8] (fun a b wr => a = .int .i64 0 ∧ b = .int .i64 20 ∧ wr = W) (fun _ _ _ => 0)
 case atStart => exact ⟨rfl, rfl, rfl⟩
 case round =>
  obtain ⟨rfl, rfl, rfl⟩ := hrel
  go_wp2_with (go_at_call 111; (with_reducible refine HI.out.mono ?_); rintro e1 w1 ⟨rfl, k, rfl⟩)
  go_loopw [6] (fun a wr => a = .int .i64 20 ∧ wr = V.drewN k) (fun _ _ => 0)
  case atStart => exact ⟨rfl, rfl⟩
  case round =>
   obtain ⟨rfl, rfl⟩ := hrel
   go_wp2
   go_end0
   exact ⟨rfl, _, rfl⟩
theorem stable_num {n : Nat} (hn : n = m + 1) (h : AppW W blk p2 p3 p4 bw ow (m + 1) c ws t s) (d : Array (Fin (m + 1))) (hd : d.size = m + 1) (hH : Sort.Holds encF W blk 0 d) (hm : m < 19) :
  Calls Tryz.prog 29 #[.slice (some ⟨blk, 0, none⟩) n cap, .func (.func 30) #[] (cbA p2 p3 p4)] W (StablePost W blk t s ws d) := by
 have HI := qh (stable0_num (cap := cap) hn h d hd hH (by omega))
 clear h hd hH hm hn
 go_enter Tryz.func29, Tryz.ntmps29
 go_wp2_with (go_at_call 71; (with_reducible refine HI.out.mono ?_); rintro e1 w1 ⟨rfl, k, rfl⟩)
 go_end0
 exact ⟨rfl, _, rfl⟩
end
end Go.Proofs.YtoccfcpggomlaaaGreatDoor
namespace Go.Proofs.YtoccfcpggomlaaaGreatDoor
open Go Go.ChangeShapes Go.WideShapes Go.ChangeAt Go.RowKit

theorem own : ownKnob Tryz.prog.godebug = none := by kernel_rfl
theorem laidOut : laidOutB Tryz.prog = true := by kernel_rfl
theorem gPow : Tryz.prog.globalNamed "internal/strconv.uint64pow10" = some 7 := by kernel_rfl
theorem gPowType : (Tryz.prog.globals[7]?).map (·.type) = some 268 := by kernel_rfl
theorem cellsPow : Tryz.prog.cellsOf 268 = 20 := by kernel_rfl
theorem cellsU64 : Tryz.prog.cellsOf 148 = 1 := by kernel_rfl
theorem laidMetH.plain {l : List (String × DataW Unit)} {W : World} (h : laidMetH Tryz.prog l W) (hp : (l.all fun x => x.2.handleName?.isNone) = true) : laidMet Tryz.prog l W := by
 rw [MakeChecks.laidMetH_plain _ _ _ hp] at h; exact h
theorem env_of {W : World} {l : List (String × DataW Unit)} (h : laidMet Tryz.prog (("internal/strconv.uint64pow10", Rows.laid_internal_strconv_uint64pow10) :: l) W) (hs : W.ShapedOpen Tryz.prog) : Env W := by
 obtain ⟨m, hm⟩ := Go.Proofs.cell_of_shapedOpen_int (g := 0) (zero := #[.int .i64 0]) (t := 3) hs (of_decide_eq_true (by kernel_rfl)) (by kernel_rfl) rfl (by kernel_rfl) (by kernel_rfl) Tryz.underlying3
 exact ⟨Lib.tabBelow_of_tabIs (Lib.tabIs_of_head (zs := Lib.pow10Tab) gPow gPowType Tryz.underlying268 Tryz.underlying148 cellsU64 cellsPow h), ⟨m, hm⟩, World.block_lt_of_cell? W ⟨0, 0, none⟩ hm⟩
end Go.Proofs.YtoccfcpggomlaaaGreatDoor
