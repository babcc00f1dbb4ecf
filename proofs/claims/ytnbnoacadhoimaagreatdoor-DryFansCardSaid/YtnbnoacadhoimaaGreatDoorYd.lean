/- Merging in place: symMerge. -/
import Derived.Test.YtnbnoacadhoimaaGreatDoorYaG
import Derived.Test.YtnbnoacadhoimaaGreatDoorCjG
set_option linter.unusedSimpArgs false
set_option linter.unusedVariables false
set_option maxRecDepth 100000
set_option maxHeartbeats 8000000
namespace Go.Proofs.YtnbnoacadhoimaaGreatDoor
open Go Go.RowKit Go.Sort Sy

/-- What the comparison says in every world that the row passes through. -/
def CmpQ {m : Nat} (W : World) (blk off p N : Nat) (cf : Fin (m + 1) → Fin (m + 1) → Int) : Prop := ∀ (X : Array (Fin (m + 1))) (x y : Fin (m + 1)), X.size = N → ∀ q n, Calls Tryz.prog 108 #[.int .i64 ((x.val : Nat) : Int), .int .i64 ((y.val : Nat) : Int), .pointer (some ⟨p, 0, none⟩)] ((PW W blk off X q).drewN n) fun e w' => e = .returned (.int .i64 (cf x y)) ∧ ∃ r, w' = (PW W blk off X q).drewN r
theorem cmpQ_of {m : Nat} {W : World} {blk off p N : Nat} {cf : Fin (m + 1) → Fin (m + 1) → Int} (h : CmpReads Tryz.prog 108 #[.pointer (some ⟨p, 0, none⟩)] (encF (n := m + 1)) cf blk off N W) : CmpQ W blk off p N cf := fun X x y hX q n => by
  have := h (q + n) #[] X hX x y
  rw [sortWorld_none, ← World.drewN_drewN] at this
  exact this.mono fun e w' ⟨a, r, b⟩ => ⟨a, n + r, by rw [b, World.drewN_drewN]⟩
section
variable {W : World} {blk off m cap N p : Nat} {d0 : Array (Fin (m + 1))} {cf : Fin (m + 1) → Fin (m + 1) → Int}
/-- The lesser number is in the first part. -/
def Later (a s b : Nat) (d : Array (Fin (m + 1))) : Prop := ∀ i j, a ≤ i → i < s → s ≤ j → j < b → (d[i]!).val < (d[j]!).val
theorem lt_later {lt : Fin (m + 1) → Fin (m + 1) → Bool} {x y : Fin (m + 1)} (h : x.val < y.val) : ltT lt y x = lt y x := by
  unfold ltT
  rw [decide_eq_false (show ¬ y.val < x.val by omega), Bool.and_false, Bool.or_false]
theorem pw_look (hH : Sort.Holds encF W blk off d0) (hC : CmpQ W blk off p N cf) {d : Array (Fin (m + 1))} (hd : d.size = d0.size) (hN : d.size = N) (q : Nat) {i j : Nat} (hi : i < N) (hj : j < N) (hL : (d[j]!).val < (d[i]!).val) :
    ∃ (x y : Nat) (c : Int), ((PW W blk off d q).cell? ⟨blk, off + i, none⟩ = some (.int .i64 (x : Int)) ∧ (PW W blk off d q).frozen? ⟨blk, off + i, none⟩ = false) ∧ ((PW W blk off d q).cell? ⟨blk, off + j, none⟩ = some (.int .i64 (y : Int)) ∧ (PW W blk off d q).frozen? ⟨blk, off + j, none⟩ = false) ∧
      (∀ n, Calls Tryz.prog 108 #[.int .i64 (x : Int), .int .i64 (y : Int), .pointer (some ⟨p, 0, none⟩)] ((PW W blk off d q).drewN n) fun e w' => e = .returned (.int .i64 c) ∧ ∃ r, w' = (PW W blk off d q).drewN r) ∧ decide (c < 0) = ltT (ltOf cf) d[i]! d[j]! := by
  refine ⟨(d[i]!).val, (d[j]!).val, cf d[i]! d[j]!, pw_cell hH hd q (by omega), pw_cell hH hd q (by omega), fun n => hC d _ _ hN q n, ?_⟩
  rw [lt_later hL]; rfl
theorem sym_left (hw : SWO (ltOf cf)) (hH : Sort.Holds encF W blk off d0) (hC : CmpQ W blk off p N cf) (d : Array (Fin (m + 1))) (hd : d.size = d0.size) (hN : d.size = N) {a b : Nat} (h2 : a + 1 < b) (h3 : b ≤ N) (hz : N < 1000000) (hM : Mrg (ltT (ltOf cf)) a (a + 1) b d) (hL : Later a (a + 1) b d) (k : Nat) :
    Calls Tryz.prog 181 #[.slice (some ⟨blk, off, none⟩) N cap, .int .i64 (a : Int), .int .i64 ((a + 1 : Nat) : Int), .int .i64 (b : Int), .func (.func 108) #[] #[.pointer (some ⟨p, 0, none⟩)]] (PW W blk off d k) fun e w' => e = .returned (.tuple #[]) ∧ ∃ d' k', w' = PW W blk off d' k' ∧ PermIn a b d d' ∧ SortedIn (ltT (ltOf cf)) a b d' := by
  have m1 : IntKind.i64.wrap (((a + 1 : Nat) : Int) - (a : Int)) = 1 := by simp [IntKind.wrap, IntKind.bits, IntKind.signed]; omega
  obtain ⟨s, hs⟩ : ∃ s, a + 1 = s := ⟨_, rfl⟩
  rw [hs] at m1 h2 hM hL ⊢
  have HS := qh hs
  have HH := qh (And.intro hH (And.intro hd (And.intro hN (And.intro hM hL))))
  have HCC := qh (And.intro hC hw)
  clear hH hd hN hM hL hC hw hs
  go_enter Tryz.func181, Tryz.ntmps181
  go_wp2
  clear m1
  go_loopw [10, 11] (fun u v wr => ∃ (i j q : Nat), u = .int .i64 (i : Int) ∧ v = .int .i64 (j : Int) ∧ s ≤ i ∧ i ≤ j ∧ j ≤ b ∧ wr = PW W blk off d q ∧ (s < i → ltT (ltOf cf) d[i - 1]! d[a]! = true) ∧ (j < b → ltT (ltOf cf) d[j]! d[a]! = false)) (fun u v _ => (intOf v).toNat - (intOf u).toNat)
  case atStart => exact ⟨s, b, k, rfl, rfl, Nat.le_refl _, by omega, Nat.le_refl _, rfl, fun h => by omega, fun h => by omega⟩
  case round =>
    obtain ⟨i, j, q, rfl, rfl, hsi, hij, hjb, rfl, hl, hr⟩ := hrel
    have HLR := qh (And.intro hl hr)
    clear hl hr
    by_cases hlt : i < j
    · have p0 : decide (i < j) = true := by simpa using hlt
      obtain ⟨h, hh⟩ : ∃ h, (i + j) / 2 = h := ⟨_, rfl⟩
      have e0 : ((i : Int) + (j : Int)) / 2 = ((h : Nat) : Int) := by omega
      have e1 : IntKind.i64.wrap ((h : Int) + 1) = ((h + 1 : Nat) : Int) := by simp [IntKind.wrap, IntKind.bits, IntKind.signed]; omega
      have HB := qh (show s ≤ h ∧ h < j ∧ i ≤ h ∧ h < b ∧ j ≤ b ∧ i < j ∧ s ≤ i by omega)
      have hs := HS.out
      obtain ⟨x, y, c, ⟨cx, fx⟩, ⟨cy, fy⟩, hC, hc⟩ := pw_look HH.out.1 HCC.out.1 HH.out.2.1 HH.out.2.2.1 q (i := h) (j := a) (by omega) (by omega) (HH.out.2.2.2.2 a h (Nat.le_refl _) (by omega) (by omega) (by omega))
      have b1 : h < N := by omega
      have b2 : a < N := by omega
      obtain ⟨wq, hwq⟩ : ∃ w, PW W blk off d q = w := ⟨_, rfl⟩
      rw [hwq] at cx fx cy fy hC ⊢
      have HC := qh hC
      have HW := qh hwq
      clear hsi hij hjb hs hwq hC hh
      cases hv : ltT (ltOf cf) d[h]! d[a]! with
      | true =>
        have q1 : decide (c < 0) = true := hc.trans hv
        have HV := qh hv
        clear hc hv
        go_upto_region 5 with (fail)
        go_quiet (first | ((go_at_call 108; with_reducible exact HC.out _)))
        go_wp2
        have hb := HB.out
        exact ⟨⟨h + 1, j, q + nq, by simp, rfl, by omega, by omega, by omega, by rw [← HW.out, World.drewN_drewN], fun _ => HV.out, HLR.out.2⟩, by simp [intOf]; omega⟩
      | false =>
        have q1 : decide (c < 0) = false := hc.trans hv
        have HV := qh hv
        clear hc hv
        go_upto_region 5 with (fail)
        go_quiet (first | ((go_at_call 108; with_reducible exact HC.out _)))
        go_wp2
        have hb := HB.out
        exact ⟨⟨i, h, q + nq, rfl, rfl, by omega, by omega, by omega, by rw [← HW.out, World.drewN_drewN], HLR.out.1, fun _ => HV.out⟩, by simp [intOf]; omega⟩
    · have p0 : decide (i < j) = false := by simpa using hlt
      obtain rfl : i = j := by omega
      clear hij hlt
      have hs := HS.out
      have e1 : IntKind.i64.wrap ((i : Int) - 1) = ((i - 1 : Nat) : Int) := by simp [IntKind.wrap, IntKind.bits, IntKind.signed]; omega
      obtain ⟨i1, hi1⟩ : ∃ i1, i - 1 = i1 := ⟨_, rfl⟩
      rw [hi1] at e1
      have HI := qh (show s ≤ i ∧ i ≤ b ∧ i = i1 + 1 ∧ a ≤ i1 by omega)
      clear hsi hjb hs hi1
      go_wp2
      go_loopw [13] (fun u wr => ∃ (k q : Nat) (f : Array (Fin (m + 1))), u = .int .i64 (k : Int) ∧ a ≤ k ∧ k ≤ i1 ∧ wr = PW W blk off f q ∧ f.size = d.size ∧ Rot d a (a + 1) (k + 1) f ∧ PermIn a b d f) (fun u _ => i1 - (intOf u).toNat)
      case atStart => exact ⟨a, q, d, rfl, Nat.le_refl _, HI.out.2.2.2, rfl, rfl, Rot.nil _ _ _ (by omega), permIn_refl _ _ _⟩
      case round =>
        obtain ⟨k, q, f, rfl, hak, hki, rfl, hfs, hRf, hPf⟩ := hrel
        have HR := qh (And.intro hfs (And.intro hRf hPf))
        by_cases hlt : k < i1
        · have p0 : decide (k < i1) = true := by simpa using hlt
          have hs : f.size = d0.size := hfs.trans HH.out.2.1
          have hN := HH.out.2.2.1
          have hi := HI.out
          obtain ⟨k1, hk1⟩ : ∃ k1, k + 1 = k1 := ⟨_, rfl⟩
          obtain ⟨ca, fa⟩ := pw_cell HH.out.1 hs q (j := k) (by omega)
          obtain ⟨cb, fb⟩ := pw_cell HH.out.1 hs q (j := k1) (by omega)
          obtain ⟨va, hva⟩ : ∃ v, f[k]! = v := ⟨_, rfl⟩
          obtain ⟨vb, hvb⟩ : ∃ v, f[k1]! = v := ⟨_, rfl⟩
          have hsw := swap_worldC encF W blk off f q k k1 (by omega) (by omega)
          rw [hva] at ca hsw
          rw [hvb] at cb hsw
          have HSW : Hid (((((PW W blk off f q).setCell ⟨blk, off + k, none⟩ (encF vb)).setCell ⟨blk, off + k1, none⟩ (encF va)).drew = PW W blk off (swp f k k1) (q + 1))) := qh hsw
          have e2 : IntKind.i64.wrap ((k : Int) + 1) = (k1 : Int) := by simp [IntKind.wrap, IntKind.bits, IntKind.signed]; omega
          have a1 : k < N := by omega
          have b1 : k1 < N := by omega
          have hne : ¬ k = k1 := by omega
          obtain ⟨z1, hz1⟩ : ∃ z, encF va = .int .i64 z := ⟨_, rfl⟩
          obtain ⟨z2, hz2⟩ : ∃ z, encF vb = .int .i64 z := ⟨_, rfl⟩
          rw [hz1] at ca HSW
          rw [hz2] at cb HSW
          have HK := qh (show k + 1 = k1 ∧ a ≤ k ∧ k < i1 by omega)
          clear hs hN hi hva hvb hsw hz1 hz2 hk1 hfs hRf hPf hak hki hlt
          obtain ⟨wq, hwq⟩ : ∃ w, PW W blk off f q = w := ⟨_, rfl⟩
          rw [hwq] at ca fa cb fb HSW ⊢
          have HW := qh hwq
          clear hwq
          go_upto_region 11 with (fail)
          go_big_region
          go_wp2
          have hk := HK.out
          have hi := HI.out
          have hN := HH.out.2.2.1
          have hf := HR.out.1
          refine ⟨⟨k1, q + 1, _, by simp [← hk.1], by omega, by omega, HSW.out, by rw [size_swp]; exact hf, ?_, ?_⟩, by simp [intOf]; omega⟩
          · obtain rfl := hk.1
            exact HR.out.2.1.up (by omega) (by omega)
          · exact permIn_trans _ _ _ _ _ HR.out.2.2 (swp_permIn _ a b k k1 (by omega) (by omega) (by omega) (by omega) (by omega))
        · have p0 : decide (k < i1) = false := by simpa using hlt
          obtain rfl : k = i1 := by omega
          clear hki hlt hfs hRf hPf
          go_wp2
          ((try simp only [Exit.inBlock, Exit.then]); refine bodyPost_ret (results_none rfl _ _ _) rfl ?_)
          have hi := HI.out
          have hs := HS.out
          refine ⟨rfl, f, q, rfl, HR.out.2.2, one_left (ltT_swo HCC.out.2) (d := d) (i := i) ?_ ?_ (by omega) (by omega) ?_ ?_⟩
          · have := HR.out.2.1
            rwa [← hi.2.2.1] at this
          · rw [hs]; exact HH.out.2.2.2.1.snd
          · rw [hs]; exact HLR.out.1
          · exact HLR.out.2
theorem sym_right (hw : SWO (ltOf cf)) (hH : Sort.Holds encF W blk off d0) (hC : CmpQ W blk off p N cf) (d : Array (Fin (m + 1))) (hd : d.size = d0.size) (hN : d.size = N) {a s : Nat} (h2 : a + 1 < s) (h3 : s + 1 ≤ N) (hz : N < 1000000) (hM : Mrg (ltT (ltOf cf)) a s (s + 1) d) (hL : Later a s (s + 1) d) (k : Nat) :
    Calls Tryz.prog 181 #[.slice (some ⟨blk, off, none⟩) N cap, .int .i64 (a : Int), .int .i64 (s : Int), .int .i64 ((s + 1 : Nat) : Int), .func (.func 108) #[] #[.pointer (some ⟨p, 0, none⟩)]] (PW W blk off d k) fun e w' => e = .returned (.tuple #[]) ∧ ∃ d' k', w' = PW W blk off d' k' ∧ PermIn a (s + 1) d d' ∧ SortedIn (ltT (ltOf cf)) a (s + 1) d' := by
  have m0 : IntKind.i64.wrap ((s : Int) - (a : Int)) = (s : Int) - (a : Int) := by simp [IntKind.wrap, IntKind.bits, IntKind.signed]; omega
  have m1 : ((s : Int) - (a : Int) == 1) = false := by rw [beq_eq_false_iff_ne]; omega
  have m2 : IntKind.i64.wrap (((s + 1 : Nat) : Int) - (s : Int)) = 1 := by simp [IntKind.wrap, IntKind.bits, IntKind.signed]; omega
  obtain ⟨b, hb⟩ : ∃ b, s + 1 = b := ⟨_, rfl⟩
  rw [hb] at m2 h3 hM hL ⊢
  have HS := qh hb
  have HH := qh (And.intro hH (And.intro hd (And.intro hN (And.intro hM hL))))
  have HCC := qh (And.intro hC hw)
  have h3 : s < N := by omega
  have h2 : a < s := by omega
  clear hH hd hN hM hL hC hw hb
  go_enter Tryz.func181, Tryz.ntmps181
  go_wp2
  clear m1 m2 m0
  go_loopw [14, 15] (fun u v wr => ∃ (i j q : Nat), u = .int .i64 (i : Int) ∧ v = .int .i64 (j : Int) ∧ a ≤ i ∧ i ≤ j ∧ j ≤ s ∧ wr = PW W blk off d q ∧ (a < i → ltT (ltOf cf) d[s]! d[i - 1]! = false) ∧ (j < s → ltT (ltOf cf) d[s]! d[j]! = true)) (fun u v _ => (intOf v).toNat - (intOf u).toNat)
  case atStart => exact ⟨a, s, k, rfl, rfl, Nat.le_refl _, by omega, Nat.le_refl _, rfl, fun h => by omega, fun h => by omega⟩
  case round =>
    obtain ⟨i, j, q, rfl, rfl, hsi, hij, hjb, rfl, hl, hr⟩ := hrel
    have HLR := qh (And.intro hl hr)
    clear hl hr
    by_cases hlt : i < j
    · have p0 : decide (i < j) = true := by simpa using hlt
      obtain ⟨h, hh⟩ : ∃ h, (i + j) / 2 = h := ⟨_, rfl⟩
      have e0 : ((i : Int) + (j : Int)) / 2 = ((h : Nat) : Int) := by omega
      have e1 : IntKind.i64.wrap ((h : Int) + 1) = ((h + 1 : Nat) : Int) := by simp [IntKind.wrap, IntKind.bits, IntKind.signed]; omega
      have HB := qh (show a ≤ h ∧ h < j ∧ i ≤ h ∧ h < s ∧ j ≤ s ∧ i < j ∧ a ≤ i by omega)
      have hs := HS.out
      obtain ⟨x, y, c, ⟨cx, fx⟩, ⟨cy, fy⟩, hC, hc⟩ := pw_look HH.out.1 HCC.out.1 HH.out.2.1 HH.out.2.2.1 q (i := s) (j := h) (by omega) (by omega) (HH.out.2.2.2.2 h s (by omega) (by omega) (by omega) (by omega))
      have b1 : h < N := by omega
      obtain ⟨wq, hwq⟩ : ∃ w, PW W blk off d q = w := ⟨_, rfl⟩
      rw [hwq] at cx fx cy fy hC ⊢
      have HC := qh hC
      have HW := qh hwq
      clear hsi hij hjb hs hwq hC hh
      cases hv : ltT (ltOf cf) d[s]! d[h]! with
      | true =>
        have q1 : decide (c < 0) = true := hc.trans hv
        have HV := qh hv
        clear hc hv
        go_upto_region 17 with (fail)
        go_quiet (first | ((go_at_call 108; with_reducible exact HC.out _)))
        go_wp2
        have hb := HB.out
        exact ⟨⟨i, h, q + nq, rfl, rfl, by omega, by omega, by omega, by rw [← HW.out, World.drewN_drewN], HLR.out.1, fun _ => HV.out⟩, by simp [intOf]; omega⟩
      | false =>
        have q1 : decide (c < 0) = false := hc.trans hv
        have HV := qh hv
        clear hc hv
        go_upto_region 17 with (fail)
        go_quiet (first | ((go_at_call 108; with_reducible exact HC.out _)))
        go_wp2
        have hb := HB.out
        exact ⟨⟨h + 1, j, q + nq, by simp, rfl, by omega, by omega, by omega, by rw [← HW.out, World.drewN_drewN], fun _ => HV.out, HLR.out.2⟩, by simp [intOf]; omega⟩
    · have p0 : decide (i < j) = false := by simpa using hlt
      obtain rfl : i = j := by omega
      clear hij hlt
      have HI := qh (show a ≤ i ∧ i ≤ s by omega)
      clear hsi hjb
      go_wp2
      go_loopw [17] (fun u wr => ∃ (k q : Nat) (f : Array (Fin (m + 1))), u = .int .i64 (k : Int) ∧ i ≤ k ∧ k ≤ s ∧ wr = PW W blk off f q ∧ f.size = d.size ∧ Rot d k s (s + 1) f ∧ PermIn a b d f) (fun u _ => (intOf u).toNat - i)
      case atStart => exact ⟨s, q, d, rfl, HI.out.2, Nat.le_refl _, rfl, rfl, Rot.nil2 _ _ _ (by omega), permIn_refl _ _ _⟩
      case round =>
        obtain ⟨k, q, f, rfl, hak, hki, rfl, hfs, hRf, hPf⟩ := hrel
        have HR := qh (And.intro hfs (And.intro hRf hPf))
        by_cases hlt : i < k
        · have p0 : decide (i < k) = true := by simpa using hlt
          have hs : f.size = d0.size := hfs.trans HH.out.2.1
          have hN := HH.out.2.2.1
          have hi := HI.out
          obtain ⟨k1, hk1⟩ : ∃ k1, k - 1 = k1 := ⟨_, rfl⟩
          obtain ⟨ca, fa⟩ := pw_cell HH.out.1 hs q (j := k) (by omega)
          obtain ⟨cb, fb⟩ := pw_cell HH.out.1 hs q (j := k1) (by omega)
          obtain ⟨va, hva⟩ : ∃ v, f[k]! = v := ⟨_, rfl⟩
          obtain ⟨vb, hvb⟩ : ∃ v, f[k1]! = v := ⟨_, rfl⟩
          have hsw := swap_worldC encF W blk off f q k k1 (by omega) (by omega)
          rw [hva] at ca hsw
          rw [hvb] at cb hsw
          have HSW : Hid (((((PW W blk off f q).setCell ⟨blk, off + k, none⟩ (encF vb)).setCell ⟨blk, off + k1, none⟩ (encF va)).drew = PW W blk off (swp f k k1) (q + 1))) := qh hsw
          have e2 : IntKind.i64.wrap ((k : Int) - 1) = (k1 : Int) := by simp [IntKind.wrap, IntKind.bits, IntKind.signed]; omega
          have a1 : k < N := by omega
          have b1 : k1 < N := by omega
          have hne : ¬ k = k1 := by omega
          obtain ⟨z1, hz1⟩ : ∃ z, encF va = .int .i64 z := ⟨_, rfl⟩
          obtain ⟨z2, hz2⟩ : ∃ z, encF vb = .int .i64 z := ⟨_, rfl⟩
          rw [hz1] at ca HSW
          rw [hz2] at cb HSW
          have HK := qh (show k = k1 + 1 ∧ i ≤ k1 ∧ k ≤ s ∧ s < N by omega)
          clear hs hN hi hva hvb hsw hz1 hz2 hk1 hfs hRf hPf hak hki hlt
          obtain ⟨wq, hwq⟩ : ∃ w, PW W blk off f q = w := ⟨_, rfl⟩
          rw [hwq] at ca fa cb fb HSW ⊢
          have HW := qh hwq
          clear hwq
          go_upto_region 23 with (fail)
          go_big_region
          go_wp2
          have hk := HK.out
          have hi := HI.out
          have hN := HH.out.2.2.1
          have hf := HR.out.1
          have hb := HS.out
          refine ⟨⟨k1, q + 1, _, by simp, by omega, by omega, HSW.out, by rw [size_swp]; exact hf, ?_, ?_⟩, by simp [intOf]; omega⟩
          · obtain rfl := hk.1
            exact HR.out.2.1.down (by omega) (by omega)
          · exact permIn_trans _ _ _ _ _ HR.out.2.2 (swp_permIn _ a b k k1 (by omega) (by omega) (by omega) (by omega) (by omega))
        · have p0 : decide (i < k) = false := by simpa using hlt
          obtain rfl : i = k := by omega
          clear hki hlt hfs hRf hPf hak
          go_wp2
          ((try simp only [Exit.inBlock, Exit.then]); refine bodyPost_ret (results_none rfl _ _ _) rfl ?_)
          have hi := HI.out
          have hb := HS.out
          refine ⟨rfl, f, q, rfl, HR.out.2.2, ?_⟩
          rw [← hb]
          exact one_right (ltT_swo HCC.out.2) (d := d) (i := i) HR.out.2.1 HH.out.2.2.2.1.fst (by omega) (by omega) HLR.out.1 HLR.out.2
theorem later_rot {d f : Array (Fin (m + 1))} {a t s e b mid : Nat} (h : Rot d t s e f) (hL : Later a s b d) (h1 : a ≤ t) (h2 : t ≤ s) (h3 : s ≤ e) (h4 : e ≤ b) (hm : mid = t + (e - s)) : Later a t mid f ∧ Later mid e b f := by
  subst hm
  refine ⟨fun i j q1 q2 q3 q4 => ?_, fun i j q1 q2 q3 q4 => ?_⟩
  · rw [h.out i (.inl q2), h.fst j q3 q4]
    exact hL _ _ q1 (by omega) (by omega) (by omega)
  · rw [h.snd i q1 q2, h.out j (.inr q3)]
    exact hL _ _ (by omega) (by omega) (by omega) q4
/-- What symMerge promises. -/
abbrev SymP (W : World) (blk off : Nat) (cf : Fin (m + 1) → Fin (m + 1) → Int) (a b : Nat) (d : Array (Fin (m + 1))) (e : Ending) (w' : World) : Prop := e = .returned (.tuple #[]) ∧ ∃ d' k', w' = PW W blk off d' k' ∧ PermIn a b d d' ∧ SortedIn (ltT (ltOf cf)) a b d'
set_option maxHeartbeats 16000000 in
theorem sym_gen {L : Nat} (hw : SWO (ltOf cf)) (hH : Sort.Holds encF W blk off d0) (hC : CmpQ W blk off p N cf)
    (IH : ∀ (d : Array (Fin (m + 1))) (a s b k : Nat), d.size = d0.size → a < s → s < b → b ≤ N → b - a < L → Mrg (ltT (ltOf cf)) a s b d → Later a s b d →
      Calls Tryz.prog 181 #[.slice (some ⟨blk, off, none⟩) N cap, .int .i64 (a : Int), .int .i64 (s : Int), .int .i64 (b : Int), .func (.func 108) #[] #[.pointer (some ⟨p, 0, none⟩)]] (PW W blk off d k) (SymP W blk off cf a b d))
    (d : Array (Fin (m + 1))) (hd : d.size = d0.size) (hN : d.size = N) {a s b : Nat} (h1 : a + 1 < s) (h2 : s + 1 < b) (h3 : b ≤ N) (hz : N < 1000000) (hl : b - a = L) (hM : Mrg (ltT (ltOf cf)) a s b d) (hL : Later a s b d) (k : Nat) :
    Calls Tryz.prog 181 #[.slice (some ⟨blk, off, none⟩) N cap, .int .i64 (a : Int), .int .i64 (s : Int), .int .i64 (b : Int), .func (.func 108) #[] #[.pointer (some ⟨p, 0, none⟩)]] (PW W blk off d k) (SymP W blk off cf a b d) := by
  have m0 : IntKind.i64.wrap ((s : Int) - (a : Int)) = (s : Int) - (a : Int) := by simp [IntKind.wrap, IntKind.bits, IntKind.signed]; omega
  have m1 : ((s : Int) - (a : Int) == 1) = false := by rw [beq_eq_false_iff_ne]; omega
  have m2 : IntKind.i64.wrap ((b : Int) - (s : Int)) = (b : Int) - (s : Int) := by simp [IntKind.wrap, IntKind.bits, IntKind.signed]; omega
  have m3 : ((b : Int) - (s : Int) == 1) = false := by rw [beq_eq_false_iff_ne]; omega
  obtain ⟨mid, hmid⟩ : ∃ x, (a + b) / 2 = x := ⟨_, rfl⟩
  have m4 : ((a : Int) + (b : Int)) / 2 = ((mid : Nat) : Int) := by omega
  obtain ⟨n, hn⟩ : ∃ x, mid + s = x := ⟨_, rfl⟩
  have m5 : IntKind.i64.wrap ((mid : Int) + (s : Int)) = ((n : Nat) : Int) := by simp [IntKind.wrap, IntKind.bits, IntKind.signed]; omega
  have HD := qh (And.intro h1 (And.intro h2 (And.intro h3 (And.intro hl (And.intro hmid hn)))))
  have HH := qh (And.intro hH (And.intro hd (And.intro hN (And.intro hM hL))))
  have HCC := qh (And.intro hC hw)
  have HIH := qh IH
  clear hH hd hN hM hL hC hw hl hmid hn IH
  go_enter Tryz.func181, Tryz.ntmps181
  obtain ⟨g0, hg0⟩ : ∃ g, decide (mid < s) = g := ⟨_, rfl⟩
  have HG0 := qh hg0
  go_upto_if 140 with (fail)
  clear m0 m1 m2 m3 m4 m5 hg0
  go_cut [20, 21] (fun u v wx => u = .int .i64 ((lowB a s b mid : Nat) : Int) ∧ v = .int .i64 ((highB s mid : Nat) : Int) ∧ wx = PW W blk off d k)
  case first =>
    as_aux_lemma =>
      have hd := HD.out
      cases g0 with
      | true =>
        have hlt : mid < s := by simpa using HG0.out
        have e1 : IntKind.i64.wrap ((n : Int) - (b : Int)) = ((lowB a s b mid : Nat) : Int) := by
          unfold lowB
          rw [if_pos hlt]
          simp [IntKind.wrap, IntKind.bits, IntKind.signed]; omega
        have hh : highB s mid = mid := by unfold highB; rw [if_pos hlt]
        clear hd hlt
        go_wp2
        go_meet
        exact ⟨rfl, by rw [hh], rfl⟩
      | false =>
        have hlt : ¬ mid < s := by simpa using HG0.out
        have hh : highB s mid = s := by unfold highB; rw [if_neg hlt]
        have hk : lowB a s b mid = a := by unfold lowB; rw [if_neg hlt]
        clear hd hlt
        go_wp2
        go_meet
        exact ⟨by rw [hk], by rw [hh], rfl⟩
  case rest =>
    obtain ⟨rfl, rfl, rfl⟩ := hcut
    clear h1 h2 h3 HG0
    have hd := HD.out
    obtain ⟨lo, hlo⟩ : ∃ x, lowB a s b mid = x := ⟨_, rfl⟩
    obtain ⟨hi, hhi⟩ : ∃ x, highB s mid = x := ⟨_, rfl⟩
    rw [hlo, hhi]
    have hq : a ≤ lo ∧ lo ≤ hi ∧ hi ≤ s ∧ ∀ h, lo ≤ h → h < hi → s ≤ mid + s - 1 - h ∧ mid + s - 1 - h < b ∧ h ≤ mid := by
      rw [← hlo, ← hhi]
      unfold lowB highB
      split
      · exact ⟨by omega, by omega, by omega, fun h _ _ => by omega⟩
      · exact ⟨by omega, by omega, by omega, fun h _ _ => by omega⟩
    have HQ := qh hq
    have HLH := qh (And.intro hlo hhi)
    have m1 : IntKind.i64.wrap ((n : Int) - 1) = ((n - 1 : Nat) : Int) := by simp [IntKind.wrap, IntKind.bits, IntKind.signed]; omega
    obtain ⟨n1, hn1⟩ : ∃ x, n - 1 = x := ⟨_, rfl⟩
    rw [hn1] at m1
    have HN1 := qh (show n1 = mid + s - 1 ∧ mid + s = n by omega)
    clear hd hq hlo hhi hn1
    go_wp2
    clear m1
    go_loopw [20, 21] (fun u v wr => ∃ (i j q : Nat), u = .int .i64 (i : Int) ∧ v = .int .i64 (j : Int) ∧ lo ≤ i ∧ i ≤ j ∧ j ≤ hi ∧ wr = PW W blk off d q ∧ (lo < i → ltT (ltOf cf) d[mid + s - i]! d[i - 1]! = false) ∧ (j < hi → ltT (ltOf cf) d[mid + s - j - 1]! d[j]! = true)) (fun u v _ => (intOf v).toNat - (intOf u).toNat)
    case atStart => exact ⟨lo, hi, k, rfl, rfl, Nat.le_refl _, HQ.out.2.1, Nat.le_refl _, rfl, fun h => by omega, fun h => by omega⟩
    case round =>
      obtain ⟨i, j, q, rfl, rfl, hsi, hij, hjb, rfl, hl, hr⟩ := hrel
      have HLR := qh (And.intro hl hr)
      clear hl hr
      by_cases hlt : i < j
      · have p0 : decide (i < j) = true := by simpa using hlt
        obtain ⟨h, hh⟩ : ∃ h, (i + j) / 2 = h := ⟨_, rfl⟩
        have hd := HD.out
        have hn1 := HN1.out
        have hq := HQ.out
        have hq1 := hq.2.2.2 h (by omega) (by omega)
        have hbij : lo ≤ h ∧ h < j ∧ i ≤ h ∧ j ≤ hi ∧ i < j ∧ lo ≤ i := by omega
        obtain ⟨g, hg⟩ : ∃ g, n1 - h = g := ⟨_, rfl⟩
        have hgb : s ≤ g ∧ g < b ∧ h < s ∧ a ≤ h ∧ g = mid + s - h - 1 ∧ g = mid + s - (h + 1) := by omega
        have e0 : ((i : Int) + (j : Int)) / 2 = ((h : Nat) : Int) := by omega
        have e1 : IntKind.i64.wrap ((h : Int) + 1) = ((h + 1 : Nat) : Int) := by simp [IntKind.wrap, IntKind.bits, IntKind.signed]; omega
        have e2 : IntKind.i64.wrap ((n1 : Int) - (h : Int)) = ((g : Nat) : Int) := by simp [IntKind.wrap, IntKind.bits, IntKind.signed]; omega
        have HB := qh hbij
        have HG := qh hgb
        have hN := HH.out.2.2.1
        obtain ⟨x, y, c, ⟨cx, fx⟩, ⟨cy, fy⟩, hC, hc⟩ := pw_look HH.out.1 HCC.out.1 HH.out.2.1 HH.out.2.2.1 q (i := g) (j := h) (by omega) (by omega) (HH.out.2.2.2.2 h g (by omega) (by omega) (by omega) (by omega))
        have b1 : h < N := by omega
        have b2 : g < N := by omega
        obtain ⟨wq, hwq⟩ : ∃ w, PW W blk off d q = w := ⟨_, rfl⟩
        rw [hwq] at cx fx cy fy hC ⊢
        have HC := qh hC
        have HW := qh hwq
        clear hsi hij hjb hwq hC hh hd hn1 hq hq1 hbij hgb hg hN hlt
        cases hv : ltT (ltOf cf) d[g]! d[h]! with
        | true =>
          as_aux_lemma =>
            have q1 : decide (c < 0) = true := hc.trans hv
            have HV := qh hv
            clear hc hv
            go_upto_region 35 with (fail)
            go_quiet (first | ((go_at_call 108; with_reducible exact HC.out _)))
            go_wp2
            have hb := HB.out
            exact ⟨⟨i, h, q + nq, rfl, rfl, by omega, by omega, by omega, by rw [← HW.out, World.drewN_drewN], HLR.out.1, fun _ => by rw [← HG.out.2.2.2.2.1]; exact HV.out⟩, by simp [intOf]; omega⟩
        | false =>
          as_aux_lemma =>
            have q1 : decide (c < 0) = false := hc.trans hv
            have HV := qh hv
            clear hc hv
            go_upto_region 35 with (fail)
            go_quiet (first | ((go_at_call 108; with_reducible exact HC.out _)))
            go_wp2
            have hb := HB.out
            exact ⟨⟨h + 1, j, q + nq, by simp, rfl, by omega, by omega, by omega, by rw [← HW.out, World.drewN_drewN], fun _ => by rw [← HG.out.2.2.2.2.2]; exact HV.out, HLR.out.2⟩, by simp [intOf]; omega⟩
      · have p0 : decide (i < j) = false := by simpa using hlt
        obtain rfl : i = j := by omega
        clear hij hlt
        have hd := HD.out
        have hn1 := HN1.out
        have hlh := HLH.out
        obtain ⟨⟨b1, b2, b3, b4, b5⟩, hcut⟩ := cut_of (ltT_swo HCC.out.2) HH.out.2.2.2.1 (mid := mid) (s := i) (by omega) (by omega) (by omega) (by rw [hlh.1]; exact hsi) (by rw [hlh.2]; exact hjb) (fun h => HLR.out.1 (by rw [← hlh.1]; exact h)) (fun h => HLR.out.2 (by rw [← hlh.2]; exact h))
        obtain ⟨g, hg⟩ : ∃ g, mid + s - i = g := ⟨_, rfl⟩
        rw [hg] at b3 b4 b5 hcut
        have e1 : IntKind.i64.wrap ((n : Int) - (i : Int)) = ((g : Nat) : Int) := by simp [IntKind.wrap, IntKind.bits, IntKind.signed]; omega
        have HT := qh (And.intro b1 (And.intro b2 (And.intro b3 (And.intro b4 (And.intro b5 hcut)))))
        clear b1 b2 b3 b4 b5 hcut hg hd hn1 hlh hsi hjb HLR HLH HQ HN1
        obtain ⟨g1, hg1⟩ : ∃ f, (decide (i < s) && decide (s < g)) = f := ⟨_, rfl⟩
        obtain ⟨g2, hg2⟩ : ∃ f, (decide (a < i) && decide (i < mid)) = f := ⟨_, rfl⟩
        have HG := qh (And.intro hg1 hg2)
        clear hg1 hg2
        go_upto_region 39 with (fail)
        clear e1
        go_cut [185] (fun u wx => u = .bool g1 ∧ wx = PW W blk off d q)
        case first =>
          as_aux_lemma =>
            have hg1 := HG.out.1
            by_cases hlt : i < s
            · have p0 : decide (i < s) = true := by simpa using hlt
              rw [p0, Bool.true_and] at hg1
              clear hlt
              go_wp2
              go_meet
              exact ⟨rfl, rfl⟩
            · have p0 : decide (i < s) = false := by simpa using hlt
              rw [p0, Bool.false_and] at hg1
              subst hg1
              clear hlt
              go_wp2
              go_meet
              exact ⟨rfl, rfl⟩
        case rest =>
          obtain ⟨rfl, rfl⟩ := hcut
          go_upto_if 185 with (fail)
          go_cut [185] (fun u wx => u = .bool g1 ∧ ∃ f k', wx = PW W blk off f k' ∧ Rot d i s g f ∧ PermIn a b d f)
          case first =>
            as_aux_lemma =>
              have hg1 := HG.out.1
              have hd := HD.out
              obtain ⟨t1, t2, t3, t4, t5, -⟩ := HT.out
              have hN := HH.out.2.2.1
              cases g1 with
              | true =>
                have h1 : i < s ∧ s < g := by simpa using hg1
                have HC := qh (rotate_num (cap := cap) (fn := .func (.func 108) #[] #[.pointer (some ⟨p, 0, none⟩)]) HH.out.1 d HH.out.2.1 hN h1.1 h1.2 (by omega) hz q)
                have HP := qh (And.intro (rotF_rot d (a := i) (m := s) (b := g) (by omega) (by omega) (by omega)) (show a ≤ i ∧ g ≤ b ∧ b ≤ d.size by omega))
                clear hg1 hd t1 t2 t3 t4 t5 hN h1
                go_wp2_with (go_at_call 208; (with_reducible refine HC.out.mono ?_); rintro e8 w8 ⟨rfl, k8, rfl, hp8⟩)
                go_meet
                have hp := HP.out
                exact ⟨rfl, _, k8, rfl, hp.1, permIn_mono _ _ _ _ _ _ hp.2.1 hp.2.2.1 hp.2.2.2 hp8⟩
              | false =>
                have h1 : i < s → ¬ s < g := by simpa using hg1
                have hR : Rot d i s g d := by
                  by_cases e : i < s
                  · obtain rfl : g = s := by have := h1 e; omega
                    exact Rot.nil _ _ _ (by omega)
                  · obtain rfl : i = s := by omega
                    exact Rot.nil2 _ _ _ (by omega)
                have HP := qh hR
                clear hg1 hd t1 t2 t3 t4 t5 hN h1 hR
                go_wp2
                go_meet
                exact ⟨rfl, d, q, rfl, HP.out, permIn_refl _ _ _⟩
          case rest =>
            obtain ⟨rfl, f, k1, rfl, hRf, hPf⟩ := hcut
            have hd := HD.out
            obtain ⟨t1, t2, t3, t4, t5, hcut⟩ := HT.out
            obtain ⟨hM1, hM2⟩ := hRf.mrg HH.out.2.2.2.1 t1 t2 t3 t4 t5
            obtain ⟨hL1, hL2⟩ := later_rot hRf HH.out.2.2.2.2 t1 t2 t3 t4 t5
            have hpa := hRf.parts (ltT_swo HCC.out.2) HH.out.2.2.2.1 hcut t1 t2 t3 t4 t5
            have HF := qh (And.intro hRf.size (And.intro hPf (And.intro hM1 (And.intro hM2 (And.intro hL1 (And.intro hL2 hpa))))))
            have HB := qh (show a ≤ i ∧ i ≤ mid ∧ mid ≤ g ∧ g ≤ b ∧ a < mid ∧ mid < b by omega)
            clear hd t1 t2 t3 t4 t5 hcut hM1 hM2 hL1 hL2 hpa hRf hPf
            go_upto_region 41 with (fail)
            go_cut [199] (fun u wx => u = .bool g2 ∧ wx = PW W blk off f k1)
            case first =>
              as_aux_lemma =>
                have hg1 := HG.out.2
                by_cases hlt : a < i
                · have p0 : decide (a < i) = true := by simpa using hlt
                  rw [p0, Bool.true_and] at hg1
                  clear hlt
                  go_wp2
                  go_meet
                  exact ⟨rfl, rfl⟩
                · have p0 : decide (a < i) = false := by simpa using hlt
                  rw [p0, Bool.false_and] at hg1
                  subst hg1
                  clear hlt
                  go_wp2
                  go_meet
                  exact ⟨rfl, rfl⟩
            case rest =>
              obtain ⟨rfl, rfl⟩ := hcut
              go_upto_if 199 with (fail)
              go_cut [199] (fun u wx => u = .bool g2 ∧ ∃ f2 k', wx = PW W blk off f2 k' ∧ PermIn a mid f f2 ∧ SortedIn (ltT (ltOf cf)) a mid f2)
              case first =>
                as_aux_lemma =>
                  have hg1 := HG.out.2
                  have hd := HD.out
                  have hb := HB.out
                  have hf := HF.out
                  have hN := HH.out.2.2.1
                  cases g2 with
                  | true =>
                    have h1 : a < i ∧ i < mid := by simpa using hg1
                    have HC := qh (HIH.out f a i mid k1 (by rw [hf.1]; exact HH.out.2.1) h1.1 h1.2 (by omega) (by omega) hf.2.2.1 hf.2.2.2.2.1)
                    clear hg1 hd hb hf hN h1
                    go_wp2_with (go_at_call 181; (with_reducible refine HC.out.mono ?_); rintro e8 w8 ⟨rfl, f8, k8, rfl, hp8, hs8⟩)
                    go_meet
                    exact ⟨rfl, f8, k8, rfl, hp8, hs8⟩
                  | false =>
                    have h1 : a < i → ¬ i < mid := by simpa using hg1
                    have hS : SortedIn (ltT (ltOf cf)) a mid f := by
                      by_cases e : a < i
                      · obtain rfl : i = mid := by have := h1 e; omega
                        exact hf.2.2.1.fst
                      · obtain rfl : a = i := by omega
                        exact hf.2.2.1.snd
                    have HP := qh hS
                    clear hg1 hd hb hf hN h1 hS
                    go_wp2
                    go_meet
                    exact ⟨rfl, f, k1, rfl, permIn_refl _ _ _, HP.out⟩
              case rest =>
                obtain ⟨rfl, f2, k2, rfl, hP2, hS2⟩ := hcut
                have hd := HD.out
                have hb := HB.out
                have hf := HF.out
                have hN := HH.out.2.2.1
                have sz2 : f2.size = d.size := hP2.1.trans hf.1
                have same : ∀ j, mid ≤ j → f2[j]! = f[j]! := fun j hj => hP2.2.1 j (.inr hj)
                have hM2 : Mrg (ltT (ltOf cf)) mid g b f2 := ⟨sorted_same hf.2.2.2.1.fst fun j q1 _ => same j q1, sorted_same hf.2.2.2.1.snd fun j q1 _ => same j (by omega)⟩
                have hL2 : Later mid g b f2 := fun x y q1 q2 q3 q4 => by
                  rw [same x q1, same y (by omega)]; exact hf.2.2.2.2.2.1 x y q1 q2 q3 q4
                have hfin : ∀ f3, PermIn mid b f2 f3 → SortedIn (ltT (ltOf cf)) mid b f3 → PermIn a b d f3 ∧ SortedIn (ltT (ltOf cf)) a b f3 := fun f3 hP3 hS3 => by
                  refine ⟨permIn_trans _ _ _ _ _ hf.2.1 (permIn_trans _ _ _ _ _ (permIn_mono _ _ _ _ _ _ (Nat.le_refl _) (by omega) (by rw [hf.1]; omega) hP2) (permIn_mono _ _ _ _ _ _ (by omega) (Nat.le_refl _) (by omega) hP3)), sorted_join (sorted_same hS2 fun j _ q2 => hP3.2.1 j (.inl q2)) hS3 ?_⟩
                  exact parts_perm hf.2.2.2.2.2.2 hP2 hP3 (by rw [hf.1]; omega) (by rw [hf.1]; omega)
                by_cases e1 : mid < g ∧ g < b
                · have p0 : decide (mid < g) = true := by simpa using e1.1
                  have p1 : decide (g < b) = true := by simpa using e1.2
                  have HC := qh (HIH.out f2 mid g b k2 (by rw [sz2]; exact HH.out.2.1) e1.1 e1.2 (by omega) (by omega) hM2 hL2)
                  have HP := qh hfin
                  clear hd hb hf hN sz2 same hM2 hL2 hfin e1 hP2 hS2
                  go_wp2_with (go_at_call 181; (with_reducible refine HC.out.mono ?_); rintro e8 w8 ⟨rfl, f8, k8, rfl, hp8, hs8⟩)
                  go_end0
                  exact ⟨rfl, f8, k8, rfl, HP.out f8 hp8 hs8⟩
                · have hS : SortedIn (ltT (ltOf cf)) mid b f2 := by
                    by_cases e : mid < g
                    · obtain rfl : g = b := by
                        have : ¬ g < b := fun h => e1 ⟨e, h⟩
                        omega
                      exact hM2.fst
                    · obtain rfl : mid = g := by omega
                      exact hM2.snd
                  have HP := qh (hfin f2 (permIn_refl _ _ _) hS)
                  by_cases e2 : mid < g
                  · have p0 : decide (mid < g) = true := by simpa using e2
                    have p1 : decide (g < b) = false := by
                      rw [decide_eq_false_iff_not]; exact fun h => e1 ⟨e2, h⟩
                    clear hd hb hf hN sz2 same hM2 hL2 hfin e1 e2 hP2 hS2 hS
                    go_wp2
                    go_end0
                    exact ⟨rfl, f2, k2, rfl, HP.out⟩
                  · have p0 : decide (mid < g) = false := by simpa using e2
                    clear hd hb hf hN sz2 same hM2 hL2 hfin e1 e2 hP2 hS2 hS
                    go_wp2
                    go_end0
                    exact ⟨rfl, f2, k2, rfl, HP.out⟩
theorem sym_num (hw : SWO (ltOf cf)) (hH : Sort.Holds encF W blk off d0) (hC : CmpQ W blk off p N cf) (hz : N < 1000000) : ∀ (L : Nat)
    (d : Array (Fin (m + 1))) (a s b k : Nat), d.size = d0.size → d.size = N → a < s → s < b → b ≤ N → b - a ≤ L → Mrg (ltT (ltOf cf)) a s b d → Later a s b d →
    Calls Tryz.prog 181 #[.slice (some ⟨blk, off, none⟩) N cap, .int .i64 (a : Int), .int .i64 (s : Int), .int .i64 (b : Int), .func (.func 108) #[] #[.pointer (some ⟨p, 0, none⟩)]] (PW W blk off d k) (SymP W blk off cf a b d)
  | 0, d, a, s, b, k, hd, hN, h1, h2, h3, hl, hM, hL => by omega
  | L + 1, d, a, s, b, k, hd, hN, h1, h2, h3, hl, hM, hL => by
    by_cases e1 : s = a + 1
    · subst e1
      exact sym_left hw hH hC d hd hN h2 h3 hz hM hL k
    · by_cases e2 : b = s + 1
      · subst e2
        exact sym_right hw hH hC d hd hN (by omega) h3 hz hM hL k
      · exact sym_gen (L := b - a) hw hH hC (fun d' a' s' b' k' q1 q2 q3 q4 q5 q6 q7 => sym_num hw hH hC hz L d' a' s' b' k' q1 (by omega) q2 q3 q4 (by omega) q6 q7) d hd hN (by omega) (by omega) h3 hz rfl hM hL k
end
end Go.Proofs.YtnbnoacadhoimaaGreatDoor
