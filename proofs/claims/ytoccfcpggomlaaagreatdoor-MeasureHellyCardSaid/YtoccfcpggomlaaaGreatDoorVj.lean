/- The reference's check of a short text. -/
import Derived.Test.YtoccfcpggomlaaaGreatDoorQaG
import Derived.Test.YtoccfcpggomlaaaGreatDoorHaG
set_option linter.unusedSimpArgs false
set_option linter.unusedVariables false
set_option maxRecDepth 100000
set_option maxHeartbeats 8000000
namespace Go.Proofs.YtoccfcpggomlaaaGreatDoor
open Go Go.RowKit

/-- What is wrong with a short text: by the hyphen, the text ahead of the slash, that behind it, and whether there is a slash. -/
def rchk (g : Bool) (size bot : List UInt8) (is : Bool) : Int :=
 if !Dig.plain size || (g && size == [48]) then 1
 else if is && (!Dig.plain bot || (bot == [48]) || (bot == [49])) then 1
 else if is && decide (Nat.gcd (Dig.val size) (Dig.val bot) ≠ 1) then 1 else 0
theorem plain_digs' {l : List UInt8} (h : Dig.plain l = true) : Digs l ∧ 0 < l.length := by
 unfold Dig.plain at h
 simp only [Bool.and_eq_true] at h
 refine ⟨fun c hc => List.all_eq_true.1 h.1.2 c hc, ?_⟩
 cases l with
 | nil => simp at h
 | cons a r => simp
theorem plain_big {l : List UInt8} (h : Dig.plain l = true) (hl : 10 ≤ l.length) : 1000000000 ≤ Dig.val l := by
 cases l with
 | nil => simp at hl
 | cons c r =>
   have h2 := h
   unfold Dig.plain at h2
   simp only [Bool.and_eq_true] at h2
   have hc : c ≠ 48 := by
    intro e; subst e
    cases r with
    | nil => simp at hl
    | cons d r => simp at h2
   have h3 := Dig.val_pos (l := r) (plain_digs' h |>.1 c (List.mem_cons_self ..)) hc
   have h4 : 10 ^ 9 ≤ 10 ^ r.length := Nat.pow_le_pow_right (by omega) (by simp at hl; omega)
   omega
theorem small_parts {size bot : List UInt8} (hp : Dig.plain bot = true) (hl : size.length + bot.length ≤ 17) {A B : List Nat} (ta : Pos.Trim A) (tb : Pos.Trim B) (da : Pos.Dig B9 A) (db : Pos.Dig B9 B) (hds : Digs size) (ha : Pos.nv B9 A = Dig.val size) (hb : Pos.nv B9 B = Dig.val bot) :
  B.length ≤ 1 ∨ (A.length ≤ 1 ∧ Pos.nv B9 A < Pos.nv B9 B) := by
 rcases Nat.lt_or_ge 9 bot.length with h | h
 ·right
  have h1 := val_lt9 hds (by omega)
  have h2 := plain_big hp h
  rw [B9_eq] at h1
  exact ⟨trim_small da ta (by rw [ha, B9_eq]; exact h1), by rw [ha, hb]; omega⟩
 ·left
  exact trim_small db tb (by rw [hb]; exact val_lt9 (plain_digs' hp).1 h)
theorem one_gs {gs : List Nat} (d : Pos.Dig B9 gs) (t : Pos.Trim gs) (h : Pos.nv B9 gs = 1) : gs = [1] :=
 Pos.nv_trim_inj B9_pos d (fun x hx => by rw [List.mem_singleton] at hx; subst hx; decide) t (by simp [Pos.Trim]) (by rw [h]; rfl)
section
variable {w : World} {l s size bot : List UInt8} {k : Nat}
theorem rcheck_neg (hs : l = 45 :: s) (hk : sl s = k) (hsz : s.take k = size) (hbt : s.drop (k + 1) = bot) (hl : l.length ≤ 18) :
  Calls Tryz.prog 38 #[bs l] w fun e w' => e = .returned (.int .i64 (rchk true size bot (decide (k < s.length)))) ∧ Below w.heap.size w w' := by
 have hll : l.length = s.length + 1 := by rw [hs]; simp
 have q1 := byte_at (l := l) (i := 0) (c := 45) (by omega) (by rw [hs]; rfl)
 have q2 : decide (0 < l.length) = true := by rw [decide_eq_true_iff]; omega
 have q3 : (((45 : UInt8).toNat : Int) == 45) = true := rfl
 have q9 : l.tail = s := by rw [hs]; rfl
 have q10 : (⟨l.toArray⟩ : ByteArray).extract 1 l.length = ⟨s.toArray⟩ := by rw [extract_drop, hs]; rfl
 have q11 : 0 < l.length := by omega
 have hle := sl_le s
 rw [hk] at hle
 have hzl : size.length = k := by rw [← hsz, List.length_take]; omega
 have hbl : bot.length = s.length - (k + 1) := by rw [← hbt, List.length_drop]
 have HS := qh (fun W => by have := slash_num (w := W) (l := s) (by omega); rwa [hk] at this)
 obtain ⟨b1, hb1⟩ : ∃ b, Dig.plain size = b := ⟨_, rfl⟩
 obtain ⟨b2, hb2⟩ : ∃ b, Dig.plain bot = b := ⟨_, rfl⟩
 have HP := qh (fun W => form_num (w := W) hb1 (by omega))
 have HB := qh (fun W => form_num (w := W) hb2 (by omega))
 have q6 := fun W => cut_to (l := s) (k := k) Tryz.underlying9 hle W
 rw [hsz] at q6
 unfold rchk
 rw [hb1, hb2]
 cases b1
 ·rw [show (!false || (true && size == [48])) = true from rfl, if_pos rfl]
  clear hs hk hsz hbt hl hll hle hzl hbl hb1 hb2
  go_enter Tryz.func38, Tryz.ntmps38
  go_wp2_with (first | (go_at_call 82; ((with_reducible refine (HS.out _).mono ?_); rintro e1 w1 ⟨rfl, hb1⟩); obtain ⟨hc1, hf1⟩ := bcell hb1; (try simp only [dw] at hc1 hf1)) | (go_at_call 83; (with_reducible show Calls _ _ #[bs size] _ _); ((with_reducible refine (HP.out _).mono ?_); rintro e2 w2 ⟨rfl, hb2⟩); obtain ⟨hc2, hf2⟩ := bcell hb2; (try simp only [dw] at hc2 hf2)) | (go_at_call 83; (with_reducible show Calls _ _ #[bs bot] _ _); ((with_reducible refine (HB.out _).mono ?_); rintro e3 w3 ⟨rfl, hb3⟩); obtain ⟨hc3, hf3⟩ := bcell hb3; (try simp only [dw] at hc3 hf3)))
  go_ret
  exact ⟨rfl, (bq (by with_reducible repeat' first | assumption | constructor | go_size))⟩
 ·obtain ⟨hdz, h0z⟩ := plain_digs' hb1
  by_cases hz : (true && size == [48]) = true
  ·rw [show (!true || (true && size == [48])) = true by rw [hz]; rfl, if_pos rfl]
   have r0 : (size == [48]) = true := by simpa using hz
   clear hs hk hsz hbt hl hll hle hzl hbl hb1 hb2
   clear hz hdz h0z
   go_enter Tryz.func38, Tryz.ntmps38
   go_wp2_with (first | (go_at_call 82; ((with_reducible refine (HS.out _).mono ?_); rintro e1 w1 ⟨rfl, hb1⟩); obtain ⟨hc1, hf1⟩ := bcell hb1; (try simp only [dw] at hc1 hf1)) | (go_at_call 83; (with_reducible show Calls _ _ #[bs size] _ _); ((with_reducible refine (HP.out _).mono ?_); rintro e2 w2 ⟨rfl, hb2⟩); obtain ⟨hc2, hf2⟩ := bcell hb2; (try simp only [dw] at hc2 hf2)) | (go_at_call 83; (with_reducible show Calls _ _ #[bs bot] _ _); ((with_reducible refine (HB.out _).mono ?_); rintro e3 w3 ⟨rfl, hb3⟩); obtain ⟨hc3, hf3⟩ := bcell hb3; (try simp only [dw] at hc3 hf3)))
   go_ret
   exact ⟨rfl, (bq (by with_reducible repeat' first | assumption | constructor | go_size))⟩
  ·rw [show (!true || (true && size == [48])) = false by simpa using hz, if_neg (by decide)]
   have r0 : (size == [48]) = false := by simpa using hz
   have m2 := step64 (i := k) (by omega)
   have m4 : wrap64 ((s.length : Int) - (k : Int)) = (s.length : Int) - (k : Int) := by unfold wrap64; omega
   have m5 : wrap64 ((s.length : Int) - (k : Int) - 1) = (s.length : Int) - (k : Int) - 1 := by unfold wrap64; omega
   have r1 : decide ((600 : Int) < (k : Int)) = false := by rw [decide_eq_false_iff_not]; omega
   have r2 : decide ((600 : Int) < (s.length : Int) - (k : Int) - 1) = false := by rw [decide_eq_false_iff_not]; omega
   by_cases his : k < s.length
   ·have r3 : decide (k < s.length) = true := by simpa using his
    rw [r3]
    have q8 := fun W => cut_from (l := s) (k := k + 1) Tryz.underlying9 (by omega) W
    rw [hbt] at q8
    simp only [← m2] at q8
    cases b2
    ·rw [show (true && (!false || (bot == [48]) || (bot == [49]))) = true from rfl, if_pos rfl]
     clear hs hk hsz hbt hl hll hle hzl hbl hb1 hb2
     clear hz hdz h0z his m2
     go_enter Tryz.func38, Tryz.ntmps38
     go_wp2_with (first | (go_at_call 82; ((with_reducible refine (HS.out _).mono ?_); rintro e1 w1 ⟨rfl, hb1⟩); obtain ⟨hc1, hf1⟩ := bcell hb1; (try simp only [dw] at hc1 hf1)) | (go_at_call 83; (with_reducible show Calls _ _ #[bs size] _ _); ((with_reducible refine (HP.out _).mono ?_); rintro e2 w2 ⟨rfl, hb2⟩); obtain ⟨hc2, hf2⟩ := bcell hb2; (try simp only [dw] at hc2 hf2)) | (go_at_call 83; (with_reducible show Calls _ _ #[bs bot] _ _); ((with_reducible refine (HB.out _).mono ?_); rintro e3 w3 ⟨rfl, hb3⟩); obtain ⟨hc3, hf3⟩ := bcell hb3; (try simp only [dw] at hc3 hf3)))
     go_ret
     exact ⟨rfl, (bq (by with_reducible repeat' first | assumption | constructor | go_size))⟩
    ·by_cases h48 : bot = [48]
     ·rw [show (true && (!true || (bot == [48]) || (bot == [49]))) = true by rw [h48]; rfl, if_pos rfl]
      have r4 : (bot == [48]) = true := by rw [h48]; rfl
      clear hs hk hsz hbt hl hll hle hzl hbl hb1 hb2
      clear hz hdz h0z his m2 h48
      go_enter Tryz.func38, Tryz.ntmps38
      go_wp2_with (first | (go_at_call 82; ((with_reducible refine (HS.out _).mono ?_); rintro e1 w1 ⟨rfl, hb1⟩); obtain ⟨hc1, hf1⟩ := bcell hb1; (try simp only [dw] at hc1 hf1)) | (go_at_call 83; (with_reducible show Calls _ _ #[bs size] _ _); ((with_reducible refine (HP.out _).mono ?_); rintro e2 w2 ⟨rfl, hb2⟩); obtain ⟨hc2, hf2⟩ := bcell hb2; (try simp only [dw] at hc2 hf2)) | (go_at_call 83; (with_reducible show Calls _ _ #[bs bot] _ _); ((with_reducible refine (HB.out _).mono ?_); rintro e3 w3 ⟨rfl, hb3⟩); obtain ⟨hc3, hf3⟩ := bcell hb3; (try simp only [dw] at hc3 hf3)))
      go_ret
      exact ⟨rfl, (bq (by with_reducible repeat' first | assumption | constructor | go_size))⟩
     ·have r4 : (bot == [48]) = false := by simpa using h48
      by_cases h49 : bot = [49]
      ·rw [show (true && (!true || (bot == [48]) || (bot == [49]))) = true by rw [h49]; rfl, if_pos rfl]
       have r5 : (bot == [49]) = true := by rw [h49]; rfl
       clear hs hk hsz hbt hl hll hle hzl hbl hb1 hb2
       clear hz hdz h0z his m2 h48 h49
       go_enter Tryz.func38, Tryz.ntmps38
       go_wp2_with (first | (go_at_call 82; ((with_reducible refine (HS.out _).mono ?_); rintro e1 w1 ⟨rfl, hb1⟩); obtain ⟨hc1, hf1⟩ := bcell hb1; (try simp only [dw] at hc1 hf1)) | (go_at_call 83; (with_reducible show Calls _ _ #[bs size] _ _); ((with_reducible refine (HP.out _).mono ?_); rintro e2 w2 ⟨rfl, hb2⟩); obtain ⟨hc2, hf2⟩ := bcell hb2; (try simp only [dw] at hc2 hf2)) | (go_at_call 83; (with_reducible show Calls _ _ #[bs bot] _ _); ((with_reducible refine (HB.out _).mono ?_); rintro e3 w3 ⟨rfl, hb3⟩); obtain ⟨hc3, hf3⟩ := bcell hb3; (try simp only [dw] at hc3 hf3)))
       go_ret
       exact ⟨rfl, (bq (by with_reducible repeat' first | assumption | constructor | go_size))⟩
      ·have r5 : (bot == [49]) = false := by simpa using h49
       rw [show (true && (!true || (bot == [48]) || (bot == [49]))) = false by rw [r4, r5]; rfl, if_neg (by decide), Bool.true_and]
       have hbp := plain_digs' hb2
       have hlen : size.length + bot.length ≤ 17 := by omega
       have HPT := qh (fun W => rparts_num (w := W) hk his (by omega) hsz hbt hdz hbp.1 h0z hbp.2 rfl rfl)
       have HPL := qh (And.intro hb2 (And.intro hlen hdz))
       obtain ⟨G, hG⟩ : ∃ G, Nat.gcd (Dig.val size) (Dig.val bot) = G := ⟨_, rfl⟩
       rw [show decide (Nat.gcd (Dig.val size) (Dig.val bot) ≠ 1) = decide (G ≠ 1) by simp only [hG]]
       have HG := qh hG
       obtain ⟨R, hR⟩ : ∃ R : Int, (if decide (G ≠ 1) = true then 1 else 0) = R := ⟨_, rfl⟩
       rw [hR]
       have HR := qh hR
       clear hR
       clear hs hk hsz hbt hl hll hle hzl hbl hb1 hb2
       clear hz hdz h0z his m2 h48 h49 hbp hlen hG
       go_enter Tryz.func38, Tryz.ntmps38
       go_upto_region 14 with (first | (go_at_call 82; ((with_reducible refine (HS.out _).mono ?_); rintro e1 w1 ⟨rfl, hb1⟩); obtain ⟨hc1, hf1⟩ := bcell hb1; (try simp only [dw] at hc1 hf1)) | (go_at_call 83; (with_reducible show Calls _ _ #[bs size] _ _); ((with_reducible refine (HP.out _).mono ?_); rintro e2 w2 ⟨rfl, hb2⟩); obtain ⟨hc2, hf2⟩ := bcell hb2; (try simp only [dw] at hc2 hf2)) | (go_at_call 83; (with_reducible show Calls _ _ #[bs bot] _ _); ((with_reducible refine (HB.out _).mono ?_); rintro e3 w3 ⟨rfl, hb3⟩); obtain ⟨hc3, hf3⟩ := bcell hb3; (try simp only [dw] at hc3 hf3)) | (go_at_call 84; (with_reducible refine (HPT.out _).mono ?_); rintro e4 w4 ⟨A4, n4, c4, ds4, B4, n5, d4, es4, rfl, hd4, ht4, hv4, he4, hu4, hx4, hb4⟩; obtain ⟨hc4, hf4⟩ := bcell hb4; (try simp only [dw] at hc4 hf4); have H4 := qh (And.intro hd4 (And.intro ht4 (And.intro hv4 (And.intro he4 (And.intro hu4 hx4))))); have HSM := qh (small_parts HPL.out.1 HPL.out.2.1 ht4 hu4 hd4.dig he4.dig HPL.out.2.2 hv4 hx4); rw [hd4.len, he4.len] at HSM; clear hd4 ht4 hv4 he4 hu4 hx4) | (go_at_call 85; (with_reducible refine (common_small (H4.out.1.below (bq (by with_reducible repeat' first | assumption | constructor | go_size))) (H4.out.2.2.2.1.below (bq (by with_reducible repeat' first | assumption | constructor | go_size))) H4.out.2.1 H4.out.2.2.2.2.1 HSM.out).mono ?_); rintro e5 w5 ⟨G5, k5, d5, gs, rfl, hg5, tg5, hvg, hb5⟩; obtain ⟨hc5, hf5⟩ := bcell hb5; (try simp only [dw] at hc5 hf5); rw [H4.out.2.2.1, H4.out.2.2.2.2.2, HG.out] at hvg; have H5 := qh (And.intro hg5 (And.intro tg5 hvg)); clear hg5 tg5 hvg))
       by_cases h1 : G = 1
       ·subst h1
        obtain rfl := one_gs H5.out.1.dig H5.out.2.1 H5.out.2.2
        obtain rfl : k5 = 1 := H5.out.1.len.symm
        obtain ⟨b, o, rfl, hlt, hcell⟩ := H5.out.1.at_ (by omega)
        have hcl : w5.cell? ⟨b, o, none⟩ = some (.int .i64 1) := hcell 0 (by omega)
        clear hcell hlt
        obtain rfl : (0 : Int) = R := HR.out
        clear HR
        go_wp2
        go_ret
        exact ⟨rfl, (bq (by with_reducible repeat' first | assumption | constructor | go_size))⟩
       ·have r6 : decide (G ≠ 1) = true := by simpa using h1
        obtain rfl : (1 : Int) = R := by rw [← HR.out, r6]; rfl
        clear HR
        by_cases hk5 : k5 = 1
        ·subst hk5
         obtain ⟨y, rfl⟩ : ∃ y, gs = [y] := by
          have := H5.out.1.len
          match gs, this with
          | [y], _ => exact ⟨y, rfl⟩
         obtain ⟨b, o, rfl, hlt, hcell⟩ := H5.out.1.at_ (by omega)
         have hcl : w5.cell? ⟨b, o, none⟩ = some (.int .i64 (y : Int)) := hcell 0 (by omega)
         have hy : y = G := by have := H5.out.2.2; rwa [Pos.nv_one] at this
         have r7 : ((y : Int) != 1) = true := by rw [bne_iff_ne]; omega
         have r8 : (y != 1) = true := by rw [bne_iff_ne]; omega
         clear hcell hlt hy h1 r6
         go_wp2
         go_ret
         exact ⟨rfl, (bq (by with_reducible repeat' first | assumption | constructor | go_size))⟩
        ·have r7 : ((k5 : Int) != 1) = true := by rw [bne_iff_ne]; omega
         have r8 : (k5 != 1) = true := by rw [bne_iff_ne]; omega
         clear h1 r6 hk5
         go_wp2
         go_ret
         exact ⟨rfl, (bq (by with_reducible repeat' first | assumption | constructor | go_size))⟩
   ·have r3 : decide (k < s.length) = false := by simpa using his
    rw [r3, Bool.false_and, Bool.false_and, if_neg (by decide), if_neg (by decide)]
    clear hs hk hsz hbt hl hll hle hzl hbl hb1 hb2
    clear hz hdz h0z his m2
    go_enter Tryz.func38, Tryz.ntmps38
    go_wp2_with (first | (go_at_call 82; ((with_reducible refine (HS.out _).mono ?_); rintro e1 w1 ⟨rfl, hb1⟩); obtain ⟨hc1, hf1⟩ := bcell hb1; (try simp only [dw] at hc1 hf1)) | (go_at_call 83; (with_reducible show Calls _ _ #[bs size] _ _); ((with_reducible refine (HP.out _).mono ?_); rintro e2 w2 ⟨rfl, hb2⟩); obtain ⟨hc2, hf2⟩ := bcell hb2; (try simp only [dw] at hc2 hf2)) | (go_at_call 83; (with_reducible show Calls _ _ #[bs bot] _ _); ((with_reducible refine (HB.out _).mono ?_); rintro e3 w3 ⟨rfl, hb3⟩); obtain ⟨hc3, hf3⟩ := bcell hb3; (try simp only [dw] at hc3 hf3)))
    go_ret
    exact ⟨rfl, (bq (by with_reducible repeat' first | assumption | constructor | go_size))⟩
theorem rcheck_nil : Calls Tryz.prog 38 #[bs []] w fun e w' => e = .returned (.int .i64 1) ∧ Below w.heap.size w w' := by
 have HS : Hid (∀ W, Calls Tryz.prog 82 #[bs []] W fun e w' => e = .returned (.int .i64 0) ∧ Below W.heap.size W w') := qh (fun W => slash_num (w := W) (l := []) (by decide))
 have HP := qh (fun W => form_num (w := W) (l := []) (b := false) rfl (by decide))
 have q6 : ∀ W, (Instr.slice 9 (bs []) none (some (.int .i64 0)) none).run Tryz.prog W = .ok (bs []) W := fun W => cut_to (l := []) (k := 0) Tryz.underlying9 (Nat.le_refl _) W
 go_enter Tryz.func38, Tryz.ntmps38
 go_wp2_with (first | (go_at_call 82; ((with_reducible refine (HS.out _).mono ?_); rintro e1 w1 ⟨rfl, hb1⟩); obtain ⟨hc1, hf1⟩ := bcell hb1; (try simp only [dw] at hc1 hf1)) | (go_at_call 83; ((with_reducible refine (HP.out _).mono ?_); rintro e2 w2 ⟨rfl, hb2⟩); obtain ⟨hc2, hf2⟩ := bcell hb2; (try simp only [dw] at hc2 hf2)))
 go_ret
 exact ⟨rfl, (bq (by with_reducible repeat' first | assumption | constructor | go_size))⟩
theorem rcheck_pos (h0 : 0 < s.length) (hh : s.head? ≠ some 45) (hk : sl s = k) (hsz : s.take k = size) (hbt : s.drop (k + 1) = bot) (hl : s.length ≤ 18) :
  Calls Tryz.prog 38 #[bs s] w fun e w' => e = .returned (.int .i64 (rchk false size bot (decide (k < s.length)))) ∧ Below w.heap.size w w' := by
 obtain ⟨c, hc⟩ : ∃ c, s.getD 0 0 = c := ⟨_, rfl⟩
 have q1 := byte_at h0 hc
 have hcc : c ≠ 45 := by
  intro e
  apply hh
  cases s with
  | nil => simp at h0
  | cons a r => simp at hc; rw [← e, ← hc]; rfl
 have q2 : decide (0 < s.length) = true := by rw [decide_eq_true_iff]; omega
 have q3 : (((c.toNat : Nat) : Int) == 45) = false := by
  rw [beq_eq_false_iff_ne]; intro h
  exact hcc (UInt8.toNat_inj.1 (by rw [show (45 : UInt8).toNat = 45 from rfl]; omega))
 have hle := sl_le s
 rw [hk] at hle
 have hzl : size.length = k := by rw [← hsz, List.length_take]; omega
 have hbl : bot.length = s.length - (k + 1) := by rw [← hbt, List.length_drop]
 have HS := qh (fun W => by have := slash_num (w := W) (l := s) (by omega); rwa [hk] at this)
 obtain ⟨b1, hb1⟩ : ∃ b, Dig.plain size = b := ⟨_, rfl⟩
 obtain ⟨b2, hb2⟩ : ∃ b, Dig.plain bot = b := ⟨_, rfl⟩
 have HP := qh (fun W => form_num (w := W) hb1 (by omega))
 have HB := qh (fun W => form_num (w := W) hb2 (by omega))
 have q6 := fun W => cut_to (l := s) (k := k) Tryz.underlying9 hle W
 rw [hsz] at q6
 unfold rchk
 rw [hb1, hb2]
 cases b1
 ·rw [show (!false || (false && size == [48])) = true from rfl, if_pos rfl]
  clear hk hsz hbt hl hle hzl hbl hb1 hb2 hh hc hcc
  go_enter Tryz.func38, Tryz.ntmps38
  go_wp2_with (first | (go_at_call 82; ((with_reducible refine (HS.out _).mono ?_); rintro e1 w1 ⟨rfl, hb1⟩); obtain ⟨hc1, hf1⟩ := bcell hb1; (try simp only [dw] at hc1 hf1)) | (go_at_call 83; (with_reducible show Calls _ _ #[bs size] _ _); ((with_reducible refine (HP.out _).mono ?_); rintro e2 w2 ⟨rfl, hb2⟩); obtain ⟨hc2, hf2⟩ := bcell hb2; (try simp only [dw] at hc2 hf2)) | (go_at_call 83; (with_reducible show Calls _ _ #[bs bot] _ _); ((with_reducible refine (HB.out _).mono ?_); rintro e3 w3 ⟨rfl, hb3⟩); obtain ⟨hc3, hf3⟩ := bcell hb3; (try simp only [dw] at hc3 hf3)))
  go_ret
  exact ⟨rfl, (bq (by with_reducible repeat' first | assumption | constructor | go_size))⟩
 ·obtain ⟨hdz, h0z⟩ := plain_digs' hb1
  have hz : ¬ ((false && size == [48]) = true) := by simp
  rw [show (!true || (false && size == [48])) = false by simp, if_neg (by decide)]
  skip
  have m2 := step64 (i := k) (by omega)
  have m4 : wrap64 ((s.length : Int) - (k : Int)) = (s.length : Int) - (k : Int) := by unfold wrap64; omega
  have m5 : wrap64 ((s.length : Int) - (k : Int) - 1) = (s.length : Int) - (k : Int) - 1 := by unfold wrap64; omega
  have r1 : decide ((600 : Int) < (k : Int)) = false := by rw [decide_eq_false_iff_not]; omega
  have r2 : decide ((600 : Int) < (s.length : Int) - (k : Int) - 1) = false := by rw [decide_eq_false_iff_not]; omega
  by_cases his : k < s.length
  ·have r3 : decide (k < s.length) = true := by simpa using his
   rw [r3]
   have q8 := fun W => cut_from (l := s) (k := k + 1) Tryz.underlying9 (by omega) W
   rw [hbt] at q8
   simp only [← m2] at q8
   cases b2
   ·rw [show (true && (!false || (bot == [48]) || (bot == [49]))) = true from rfl, if_pos rfl]
    clear hk hsz hbt hl hle hzl hbl hb1 hb2 hh hc hcc
    clear hz hdz h0z his m2
    go_enter Tryz.func38, Tryz.ntmps38
    go_wp2_with (first | (go_at_call 82; ((with_reducible refine (HS.out _).mono ?_); rintro e1 w1 ⟨rfl, hb1⟩); obtain ⟨hc1, hf1⟩ := bcell hb1; (try simp only [dw] at hc1 hf1)) | (go_at_call 83; (with_reducible show Calls _ _ #[bs size] _ _); ((with_reducible refine (HP.out _).mono ?_); rintro e2 w2 ⟨rfl, hb2⟩); obtain ⟨hc2, hf2⟩ := bcell hb2; (try simp only [dw] at hc2 hf2)) | (go_at_call 83; (with_reducible show Calls _ _ #[bs bot] _ _); ((with_reducible refine (HB.out _).mono ?_); rintro e3 w3 ⟨rfl, hb3⟩); obtain ⟨hc3, hf3⟩ := bcell hb3; (try simp only [dw] at hc3 hf3)))
    go_ret
    exact ⟨rfl, (bq (by with_reducible repeat' first | assumption | constructor | go_size))⟩
   ·by_cases h48 : bot = [48]
    ·rw [show (true && (!true || (bot == [48]) || (bot == [49]))) = true by rw [h48]; rfl, if_pos rfl]
     have r4 : (bot == [48]) = true := by rw [h48]; rfl
     clear hk hsz hbt hl hle hzl hbl hb1 hb2 hh hc hcc
     clear hz hdz h0z his m2 h48
     go_enter Tryz.func38, Tryz.ntmps38
     go_wp2_with (first | (go_at_call 82; ((with_reducible refine (HS.out _).mono ?_); rintro e1 w1 ⟨rfl, hb1⟩); obtain ⟨hc1, hf1⟩ := bcell hb1; (try simp only [dw] at hc1 hf1)) | (go_at_call 83; (with_reducible show Calls _ _ #[bs size] _ _); ((with_reducible refine (HP.out _).mono ?_); rintro e2 w2 ⟨rfl, hb2⟩); obtain ⟨hc2, hf2⟩ := bcell hb2; (try simp only [dw] at hc2 hf2)) | (go_at_call 83; (with_reducible show Calls _ _ #[bs bot] _ _); ((with_reducible refine (HB.out _).mono ?_); rintro e3 w3 ⟨rfl, hb3⟩); obtain ⟨hc3, hf3⟩ := bcell hb3; (try simp only [dw] at hc3 hf3)))
     go_ret
     exact ⟨rfl, (bq (by with_reducible repeat' first | assumption | constructor | go_size))⟩
    ·have r4 : (bot == [48]) = false := by simpa using h48
     by_cases h49 : bot = [49]
     ·rw [show (true && (!true || (bot == [48]) || (bot == [49]))) = true by rw [h49]; rfl, if_pos rfl]
      have r5 : (bot == [49]) = true := by rw [h49]; rfl
      clear hk hsz hbt hl hle hzl hbl hb1 hb2 hh hc hcc
      clear hz hdz h0z his m2 h48 h49
      go_enter Tryz.func38, Tryz.ntmps38
      go_wp2_with (first | (go_at_call 82; ((with_reducible refine (HS.out _).mono ?_); rintro e1 w1 ⟨rfl, hb1⟩); obtain ⟨hc1, hf1⟩ := bcell hb1; (try simp only [dw] at hc1 hf1)) | (go_at_call 83; (with_reducible show Calls _ _ #[bs size] _ _); ((with_reducible refine (HP.out _).mono ?_); rintro e2 w2 ⟨rfl, hb2⟩); obtain ⟨hc2, hf2⟩ := bcell hb2; (try simp only [dw] at hc2 hf2)) | (go_at_call 83; (with_reducible show Calls _ _ #[bs bot] _ _); ((with_reducible refine (HB.out _).mono ?_); rintro e3 w3 ⟨rfl, hb3⟩); obtain ⟨hc3, hf3⟩ := bcell hb3; (try simp only [dw] at hc3 hf3)))
      go_ret
      exact ⟨rfl, (bq (by with_reducible repeat' first | assumption | constructor | go_size))⟩
     ·have r5 : (bot == [49]) = false := by simpa using h49
      rw [show (true && (!true || (bot == [48]) || (bot == [49]))) = false by rw [r4, r5]; rfl, if_neg (by decide), Bool.true_and]
      have hbp := plain_digs' hb2
      have hlen : size.length + bot.length ≤ 17 := by omega
      have HPT := qh (fun W => rparts_num (w := W) hk his (by omega) hsz hbt hdz hbp.1 h0z hbp.2 rfl rfl)
      have HPL := qh (And.intro hb2 (And.intro hlen hdz))
      obtain ⟨G, hG⟩ : ∃ G, Nat.gcd (Dig.val size) (Dig.val bot) = G := ⟨_, rfl⟩
      rw [show decide (Nat.gcd (Dig.val size) (Dig.val bot) ≠ 1) = decide (G ≠ 1) by simp only [hG]]
      have HG := qh hG
      obtain ⟨R, hR⟩ : ∃ R : Int, (if decide (G ≠ 1) = true then 1 else 0) = R := ⟨_, rfl⟩
      rw [hR]
      have HR := qh hR
      clear hR
      clear hk hsz hbt hl hle hzl hbl hb1 hb2 hh hc hcc
      clear hz hdz h0z his m2 h48 h49 hbp hlen hG
      go_enter Tryz.func38, Tryz.ntmps38
      go_upto_region 14 with (first | (go_at_call 82; ((with_reducible refine (HS.out _).mono ?_); rintro e1 w1 ⟨rfl, hb1⟩); obtain ⟨hc1, hf1⟩ := bcell hb1; (try simp only [dw] at hc1 hf1)) | (go_at_call 83; (with_reducible show Calls _ _ #[bs size] _ _); ((with_reducible refine (HP.out _).mono ?_); rintro e2 w2 ⟨rfl, hb2⟩); obtain ⟨hc2, hf2⟩ := bcell hb2; (try simp only [dw] at hc2 hf2)) | (go_at_call 83; (with_reducible show Calls _ _ #[bs bot] _ _); ((with_reducible refine (HB.out _).mono ?_); rintro e3 w3 ⟨rfl, hb3⟩); obtain ⟨hc3, hf3⟩ := bcell hb3; (try simp only [dw] at hc3 hf3)) | (go_at_call 84; (with_reducible refine (HPT.out _).mono ?_); rintro e4 w4 ⟨A4, n4, c4, ds4, B4, n5, d4, es4, rfl, hd4, ht4, hv4, he4, hu4, hx4, hb4⟩; obtain ⟨hc4, hf4⟩ := bcell hb4; (try simp only [dw] at hc4 hf4); have H4 := qh (And.intro hd4 (And.intro ht4 (And.intro hv4 (And.intro he4 (And.intro hu4 hx4))))); have HSM := qh (small_parts HPL.out.1 HPL.out.2.1 ht4 hu4 hd4.dig he4.dig HPL.out.2.2 hv4 hx4); rw [hd4.len, he4.len] at HSM; clear hd4 ht4 hv4 he4 hu4 hx4) | (go_at_call 85; (with_reducible refine (common_small (H4.out.1.below (bq (by with_reducible repeat' first | assumption | constructor | go_size))) (H4.out.2.2.2.1.below (bq (by with_reducible repeat' first | assumption | constructor | go_size))) H4.out.2.1 H4.out.2.2.2.2.1 HSM.out).mono ?_); rintro e5 w5 ⟨G5, k5, d5, gs, rfl, hg5, tg5, hvg, hb5⟩; obtain ⟨hc5, hf5⟩ := bcell hb5; (try simp only [dw] at hc5 hf5); rw [H4.out.2.2.1, H4.out.2.2.2.2.2, HG.out] at hvg; have H5 := qh (And.intro hg5 (And.intro tg5 hvg)); clear hg5 tg5 hvg))
      by_cases h1 : G = 1
      ·subst h1
       obtain rfl := one_gs H5.out.1.dig H5.out.2.1 H5.out.2.2
       obtain rfl : k5 = 1 := H5.out.1.len.symm
       obtain ⟨b, o, rfl, hlt, hcell⟩ := H5.out.1.at_ (by omega)
       have hcl : w5.cell? ⟨b, o, none⟩ = some (.int .i64 1) := hcell 0 (by omega)
       clear hcell hlt
       obtain rfl : (0 : Int) = R := HR.out
       clear HR
       go_wp2
       go_ret
       exact ⟨rfl, (bq (by with_reducible repeat' first | assumption | constructor | go_size))⟩
      ·have r6 : decide (G ≠ 1) = true := by simpa using h1
       obtain rfl : (1 : Int) = R := by rw [← HR.out, r6]; rfl
       clear HR
       by_cases hk5 : k5 = 1
       ·subst hk5
        obtain ⟨y, rfl⟩ : ∃ y, gs = [y] := by
         have := H5.out.1.len
         match gs, this with
         | [y], _ => exact ⟨y, rfl⟩
        obtain ⟨b, o, rfl, hlt, hcell⟩ := H5.out.1.at_ (by omega)
        have hcl : w5.cell? ⟨b, o, none⟩ = some (.int .i64 (y : Int)) := hcell 0 (by omega)
        have hy : y = G := by have := H5.out.2.2; rwa [Pos.nv_one] at this
        have r7 : ((y : Int) != 1) = true := by rw [bne_iff_ne]; omega
        have r8 : (y != 1) = true := by rw [bne_iff_ne]; omega
        clear hcell hlt hy h1 r6
        go_wp2
        go_ret
        exact ⟨rfl, (bq (by with_reducible repeat' first | assumption | constructor | go_size))⟩
       ·have r7 : ((k5 : Int) != 1) = true := by rw [bne_iff_ne]; omega
        have r8 : (k5 != 1) = true := by rw [bne_iff_ne]; omega
        clear h1 r6 hk5
        go_wp2
        go_ret
        exact ⟨rfl, (bq (by with_reducible repeat' first | assumption | constructor | go_size))⟩
  ·have r3 : decide (k < s.length) = false := by simpa using his
   rw [r3, Bool.false_and, Bool.false_and, if_neg (by decide), if_neg (by decide)]
   clear hk hsz hbt hl hle hzl hbl hb1 hb2 hh hc hcc
   clear hz hdz h0z his m2
   go_enter Tryz.func38, Tryz.ntmps38
   go_wp2_with (first | (go_at_call 82; ((with_reducible refine (HS.out _).mono ?_); rintro e1 w1 ⟨rfl, hb1⟩); obtain ⟨hc1, hf1⟩ := bcell hb1; (try simp only [dw] at hc1 hf1)) | (go_at_call 83; (with_reducible show Calls _ _ #[bs size] _ _); ((with_reducible refine (HP.out _).mono ?_); rintro e2 w2 ⟨rfl, hb2⟩); obtain ⟨hc2, hf2⟩ := bcell hb2; (try simp only [dw] at hc2 hf2)) | (go_at_call 83; (with_reducible show Calls _ _ #[bs bot] _ _); ((with_reducible refine (HB.out _).mono ?_); rintro e3 w3 ⟨rfl, hb3⟩); obtain ⟨hc3, hf3⟩ := bcell hb3; (try simp only [dw] at hc3 hf3)))
   go_ret
   exact ⟨rfl, (bq (by with_reducible repeat' first | assumption | constructor | go_size))⟩
end
end Go.Proofs.YtoccfcpggomlaaaGreatDoor
