/- The reference's check and few digits: plain facts, and the contracts of Check on short texts and of Few. -/
import Derived.Test.YtoccfcpggomlaaaGreatDoorVj
import Derived.Test.YtoccfcpggomlaaaGreatDoorMsG
set_option linter.unusedSimpArgs false
set_option linter.unusedVariables false
set_option maxRecDepth 100000
set_option maxHeartbeats 8000000
namespace Go.Proofs.YtoccfcpggomlaaaGreatDoor
open Go Go.RowKit

theorem sl_cut (s : List UInt8) : Lib.cut s [47] = (s.take (sl s), s.drop (sl s + 1), decide (sl s < s.length)) := by
 rcases split_first 47 s with h | ⟨a, b, rfl, h⟩
 ·rw [cut_miss h, sl_all (fun c hc e => h (e ▸ hc))]; simp
 ·rw [cut_hit b h, sl_app (fun c hc e => h (e ▸ hc)), List.take_left, ← List.drop_drop, List.drop_left]; simp
theorem trim_dsh (s : List UInt8) : Lib.trimPrefix (45 :: s) [45] = s := by
 unfold Lib.trimPrefix
 rw [if_pos (head_dash.2 ⟨s, rfl⟩)]; rfl
theorem trim_none {s : List UInt8} (h : s.head? ≠ some 45) : Lib.trimPrefix s [45] = s := by
 unfold Lib.trimPrefix
 rw [if_neg (fun e => by obtain ⟨m, rfl⟩ := head_dash.1 e; exact h rfl)]
theorem rchk_eq {g : Bool} {top size bot : List UInt8} {is : Bool} (ht : (top == [45, 48]) = (g && size == [48])) (h1 : size.length ≤ 600) (h2 : bot.length ≤ 600) : rchk g size bot is = chkOf top size bot is := by
 unfold rchk chkOf badForm
 rw [ht, if_neg (show ¬ (600 < size.length ∨ 600 < bot.length) by omega)]
 cases (!Dig.plain size || (g && size == [48])) <;> cases (is && (!Dig.plain bot || (bot == [48]) || (bot == [49]))) <;> simp
theorem dash_eq {s : List UInt8} : ((45 :: s) == [45, 48]) = (true && s == [48]) := by
 cases s with
 | nil => rfl
 | cons a r => simp [Bool.beq_eq_decide_eq]
theorem chk_dash {s : List UInt8} (hl : s.length ≤ 600) : rchk true (s.take (sl s)) (s.drop (sl s + 1)) (decide (sl s < s.length)) = chk (45 :: s) := by
 have e := sl_cut (45 :: s)
 have e2 : sl (45 :: s) = sl s + 1 := by rw [sl, if_neg (by decide)]
 rw [e2, List.take_succ_cons, List.drop_succ_cons, show decide (sl s + 1 < (45 :: s).length) = decide (sl s < s.length) by simp] at e
 rw [chk_of e (trim_dsh _)]
 exact rchk_eq (top := 45 :: s.take (sl s)) dash_eq (by rw [List.length_take]; omega) (by rw [List.length_drop]; omega)
theorem chk_bare {s : List UInt8} (h : s.head? ≠ some 45) (hl : s.length ≤ 600) : rchk false (s.take (sl s)) (s.drop (sl s + 1)) (decide (sl s < s.length)) = chk s := by
 have ht : (s.take (sl s)).head? ≠ some 45 := by
  cases s with
  | nil => simp
  | cons a r =>
    rw [sl]; split
    ·simp
    ·simpa using h
 rw [chk_of (sl_cut s) (trim_none ht)]
 refine rchk_eq ?_ (by rw [List.length_take]; omega) (by rw [List.length_drop]; omega)
 rw [Bool.false_and, beq_eq_false_iff_ne]
 intro e; rw [e] at ht; exact ht rfl
section
variable {w : World} {l : List UInt8}
theorem rcheck_num {k : Int} (hk : chk l = k) (hl : l.length ≤ 18) : Calls Tryz.prog 38 #[bs l] w fun e w' => e = .returned (.int .i64 k) ∧ Below w.heap.size w w' := by
 subst hk
 by_cases h0 : l = []
 ·subst h0
  have := rcheck_nil (w := w)
  rwa [show (1 : Int) = chk [] by rw [← chk_bare (s := []) (by simp) (by simp)]; rfl] at this
 ·by_cases h : l.head? = some 45
  ·obtain ⟨s, rfl⟩ : ∃ s, l = 45 :: s := by
    cases l with
    | nil => simp at h
    | cons a r => simp at h; exact ⟨r, by rw [h]⟩
   rw [← chk_dash (by simp at hl; omega)]
   exact rcheck_neg rfl rfl rfl rfl hl
  ·rw [← chk_bare h (by omega)]
   exact rcheck_pos (List.length_pos_iff.2 h0) h rfl rfl rfl hl
end
/-- l is a number with at most d digits above and below. -/
structure Fw (d : Int) (l : List UInt8) (x : Rat) : Prop where
 eq : l = tq x
 num : ((Lib.decDigits x.num.natAbs).length : Int) ≤ d
 den : ((Lib.decDigits x.den).length : Int) ≤ d
theorem Fw.is {d : Int} {l : List UInt8} {x : Rat} (h : Fw d l x) (hd : d ≤ 600) : IsNum l x := ⟨h.eq, by have := h.num; omega, by have := h.den; omega⟩
theorem dec_lt9 {n : Nat} (h : (Lib.decDigits n).length ≤ 9) : n < 1000000000 := Nat.lt_of_lt_of_le (digits_lt n) (Nat.le_trans (Nat.pow_le_pow_right (by omega) h) (by decide))
theorem Fw.sm {d : Int} {l : List UInt8} {x : Rat} (h : Fw d l x) (hd : d ≤ 9) : Sm x := ⟨dec_lt9 (by have := h.num; omega), dec_lt9 (by have := h.den; omega)⟩
theorem Sm.small {x : Rat} (h : Sm x) : SmallQ x := ⟨by have := h.num; omega, by have := h.num; omega, by have := h.den; omega⟩
theorem Sm.is {x : Rat} (h : Sm x) : IsNum (tq x) x := ⟨rfl, by have := dec9 h.num; omega, by have := dec9 h.den; omega⟩
theorem Fw.len {d : Int} {l : List UInt8} {x : Rat} (h : Fw d l x) : (l.length : Int) ≤ 2 * d + 2 := by
 have h1 := h.num
 have h2 := h.den
 have h3 := uq_len x
 have h4 : (tq x).length ≤ (uq x).length + 1 := by rw [tq_uq]; split <;> simp
 rw [h.eq]
 split at h3 <;> omega
noncomputable def few (d : Int) (l : List UInt8) : Bool := @decide (∃ x, Fw d l x) (Classical.propDecidable _)
theorem few_true {d : Int} {l : List UInt8} (h : few d l = true) : ∃ x, Fw d l x := @of_decide_eq_true _ (Classical.propDecidable _) h
theorem few_false {d : Int} {l : List UInt8} (h : ¬ ∃ x, Fw d l x) : few d l = false := @decide_eq_false _ (Classical.propDecidable _) h
theorem few_yes {d : Int} {l : List UInt8} (h : ∃ x, Fw d l x) : few d l = true := @decide_eq_true _ (Classical.propDecidable _) h
theorem numT_tq (x : Rat) : numT (tq x) = if x.num < 0 then 45 :: Lib.decDigits x.num.natAbs else Lib.decDigits x.num.natAbs := by
 rw [tq_uq]
 unfold numT
 split
 ·rw [sl, if_neg (by decide), List.take_succ_cons, uq_sl, uq_take]
 ·rw [uq_sl, uq_take]
theorem dec_nodash (n : Nat) : (Lib.decDigits n).head? ≠ some 45 := by
 obtain ⟨c, h1, h2, h3⟩ := dec_head n
 cases h : Lib.decDigits n with
 | nil => simp
 | cons a r => rw [h] at h1; simp at h1; intro e; simp at e; exact h2 (by rw [← h1, e])
theorem absT_num (x : Rat) : absT (numT (tq x)) = Lib.decDigits x.num.natAbs := by
 rw [numT_tq]
 unfold absT
 split
 ·simp
 ·rw [if_neg (dec_nodash _)]
theorem dec_one : Lib.decDigits 1 = [49] := by unfold Lib.decDigits; decide
theorem den_tq (x : Rat) : denT (tq x) = Lib.decDigits x.den := by
 have h1 := uq_sl x
 have h2 := uq_len x
 have h3 := uq_drop x
 have key : denT (uq x) = Lib.decDigits x.den := by
  unfold denT
  rw [h1, h2, h3]
  by_cases h : x.den = 1
  ·rw [if_pos (by rw [if_pos h]; omega), h, dec_one]
  ·rw [if_neg (by rw [if_neg h]; omega), if_neg h]
 rw [tq_uq]
 split
 ·unfold denT at key ⊢
  rw [show sl (45 :: uq x) = sl (uq x) + 1 by rw [sl]; rfl, List.length_cons, List.drop_succ_cons]
  rw [← key]
  by_cases h : sl (uq x) = (uq x).length
  ·rw [if_pos (by omega), if_pos h]
  ·rw [if_neg (by omega), if_neg h]
 ·exact key
section
variable {w : World} {l : List UInt8} {d : Int}
theorem few_num {b : Bool} (hb : few d l = b) (h0 : 0 ≤ d) (h8 : d ≤ 8) : Calls Tryz.prog 32 #[bs l, .int .i64 d] w fun e w' => e = .returned (.bool b) ∧ Below w.heap.size w w' := by
 subst hb
 by_cases hl : (l.length : Int) ≤ 2 * d + 2
 ·have q1 : decide ((l.length : Int) ≤ 2 * d + 2) = true := by simpa using hl
  have HL : Hid (l.length ≤ 18) := qh (by omega)
  have hlen : l.length < 4294967281 := by omega
  obtain ⟨k, hk⟩ : ∃ k, chk l = k := ⟨_, rfl⟩
  have HC := qh (fun W => rcheck_num (w := W) hk HL.out)
  by_cases hz : k = 0
  ·subst hz
   obtain ⟨x, hx⟩ := chk_zero.1 hk
   obtain ⟨a, ha⟩ : ∃ a, numT l = a := ⟨_, rfl⟩
   obtain ⟨s, hs⟩ : ∃ s, absT a = s := ⟨_, rfl⟩
   obtain ⟨t, ht⟩ : ∃ t, denT l = t := ⟨_, rfl⟩
   have hal : a.length ≤ 18 := by rw [← ha]; unfold numT; rw [List.length_take]; omega
   have HN := qh (fun W => num_txt (w := W) ha hlen)
   have HA := qh (fun W => abs_txt (w := W) hs (by omega))
   have HD := qh (fun W => den_txt (w := W) ht hlen)
   have hs2 : s = Lib.decDigits x.num.natAbs := by rw [← hs, ← ha, hx.eq]; exact absT_num x
   have ht2 : t = Lib.decDigits x.den := by rw [← ht, hx.eq]; exact den_tq x
   by_cases b1 : (s.length : Int) ≤ d
   ·have r1 : decide ((s.length : Int) ≤ d) = true := by simpa using b1
    by_cases b2 : (t.length : Int) ≤ d
    ·have r2 : decide ((t.length : Int) ≤ d) = true := by simpa using b2
     rw [few_yes ⟨x, hx.eq, by rw [← hs2]; exact b1, by rw [← ht2]; exact b2⟩]
     clear hl hlen hk hx ha hs ht hal hs2 ht2 b1 b2
     go_enter Tryz.func32, Tryz.ntmps32
     go_wp2_with (first | (go_at_call 38; ((with_reducible refine (HC.out _).mono ?_); rintro e1 w1 ⟨rfl, hb1⟩); obtain ⟨hc1, hf1⟩ := bcell hb1; (try simp only [dw] at hc1 hf1)) | (go_at_call 74; ((with_reducible refine (HN.out _).mono ?_); rintro e2 w2 ⟨rfl, hb2⟩); obtain ⟨hc2, hf2⟩ := bcell hb2; (try simp only [dw] at hc2 hf2)) | (go_at_call 73; ((with_reducible refine (HA.out _).mono ?_); rintro e3 w3 ⟨rfl, hb3⟩); obtain ⟨hc3, hf3⟩ := bcell hb3; (try simp only [dw] at hc3 hf3)) | (go_at_call 75; ((with_reducible refine (HD.out _).mono ?_); rintro e4 w4 ⟨rfl, hb4⟩); obtain ⟨hc4, hf4⟩ := bcell hb4; (try simp only [dw] at hc4 hf4)))
     go_ret
     exact ⟨rfl, (bq (by with_reducible repeat' first | assumption | constructor | go_size))⟩
    ·have r2 : decide ((t.length : Int) ≤ d) = false := by simpa using b2
     rw [few_false (fun ⟨y, hy⟩ => b2 (by
      have e : x = y := tq_inj (hx.eq.symm.trans hy.eq)
      rw [ht2, e]; exact hy.den))]
     clear hl hlen hk hx ha hs ht hal hs2 ht2 b1 b2
     go_enter Tryz.func32, Tryz.ntmps32
     go_wp2_with (first | (go_at_call 38; ((with_reducible refine (HC.out _).mono ?_); rintro e1 w1 ⟨rfl, hb1⟩); obtain ⟨hc1, hf1⟩ := bcell hb1; (try simp only [dw] at hc1 hf1)) | (go_at_call 74; ((with_reducible refine (HN.out _).mono ?_); rintro e2 w2 ⟨rfl, hb2⟩); obtain ⟨hc2, hf2⟩ := bcell hb2; (try simp only [dw] at hc2 hf2)) | (go_at_call 73; ((with_reducible refine (HA.out _).mono ?_); rintro e3 w3 ⟨rfl, hb3⟩); obtain ⟨hc3, hf3⟩ := bcell hb3; (try simp only [dw] at hc3 hf3)) | (go_at_call 75; ((with_reducible refine (HD.out _).mono ?_); rintro e4 w4 ⟨rfl, hb4⟩); obtain ⟨hc4, hf4⟩ := bcell hb4; (try simp only [dw] at hc4 hf4)))
     go_ret
     exact ⟨rfl, (bq (by with_reducible repeat' first | assumption | constructor | go_size))⟩
   ·have r1 : decide ((s.length : Int) ≤ d) = false := by simpa using b1
    rw [few_false (fun ⟨y, hy⟩ => b1 (by
     have e : x = y := tq_inj (hx.eq.symm.trans hy.eq)
     rw [hs2, e]; exact hy.num))]
    clear hl hlen hk hx ha hs ht hal hs2 ht2 b1
    go_enter Tryz.func32, Tryz.ntmps32
    go_wp2_with (first | (go_at_call 38; ((with_reducible refine (HC.out _).mono ?_); rintro e1 w1 ⟨rfl, hb1⟩); obtain ⟨hc1, hf1⟩ := bcell hb1; (try simp only [dw] at hc1 hf1)) | (go_at_call 74; ((with_reducible refine (HN.out _).mono ?_); rintro e2 w2 ⟨rfl, hb2⟩); obtain ⟨hc2, hf2⟩ := bcell hb2; (try simp only [dw] at hc2 hf2)) | (go_at_call 73; ((with_reducible refine (HA.out _).mono ?_); rintro e3 w3 ⟨rfl, hb3⟩); obtain ⟨hc3, hf3⟩ := bcell hb3; (try simp only [dw] at hc3 hf3)))
    go_ret
    exact ⟨rfl, (bq (by with_reducible repeat' first | assumption | constructor | go_size))⟩
  ·rw [few_false (fun ⟨y, hy⟩ => hz (by rw [← hk]; exact chk_zero.2 ⟨y, hy.is (by omega)⟩))]
   have q2 : (k == 0) = false := by rw [beq_eq_false_iff_ne]; exact hz
   clear hl hlen hk hz
   go_enter Tryz.func32, Tryz.ntmps32
   go_wp2_with (first | (go_at_call 38; ((with_reducible refine (HC.out _).mono ?_); rintro e1 w1 ⟨rfl, hb1⟩); obtain ⟨hc1, hf1⟩ := bcell hb1; (try simp only [dw] at hc1 hf1)))
   go_ret
   exact ⟨rfl, (bq (by with_reducible repeat' first | assumption | constructor | go_size))⟩
 ·rw [few_false (fun ⟨y, hy⟩ => hl hy.len)]
  have q1 : decide ((l.length : Int) ≤ 2 * d + 2) = false := by simpa using hl
  clear hl
  go_enter Tryz.func32, Tryz.ntmps32
  go_wp2
  go_ret
  exact ⟨rfl, (bq (by with_reducible repeat' first | assumption | constructor | go_size))⟩
end
end Go.Proofs.YtoccfcpggomlaaaGreatDoor
