/- The contracts of the kinds of rounding. -/
import Derived.Test.YtoccfcpggomlaaaGreatDoorMpG
import Derived.MapKept
import Derived.Laws.EntriesVeiled
import Derived.Deep.CutBlock
import Derived.Deep.CutRange
set_option linter.unusedSimpArgs false
set_option linter.unusedVariables false
set_option maxRecDepth 100000
set_option maxHeartbeats 8000000
namespace Go.Proofs.YtoccfcpggomlaaaGreatDoor
open Go Go.RowKit

abbrev kDown : List UInt8 := [100, 111, 119, 110]
abbrev kUp : List UInt8 := [117, 112]
abbrev kHalfUp : List UInt8 := [104, 97, 108, 102, 45, 117, 112]
abbrev kHalfEven : List UInt8 := [104, 97, 108, 102, 45, 101, 118, 101, 110]
abbrev kfun (g : Nat) : Value := .agg #[.func (.func g) #[] #[]]
/-- The map of the kinds. -/
def kindEs : Array MapEntry := #[⟨.string ⟨#[100, 111, 119, 110]⟩, kfun 142, 0⟩, ⟨.string ⟨#[117, 112]⟩, kfun 143, 1⟩, ⟨.string ⟨#[104, 97, 108, 102, 45, 117, 112]⟩, kfun 144, 2⟩, ⟨.string ⟨#[104, 97, 108, 102, 45, 101, 118, 101, 110]⟩, kfun 145, 3⟩]
theorem alloc_obj (w : World) (o : Obj) : (w.alloc o).heap[w.heap.size]? = some o := by
 show (w.heap.push o)[w.heap.size]? = _
 simp
theorem alloc_set (w : World) (o o' : Obj) : { w.alloc o with heap := (w.alloc o).heap.setIfInBounds w.heap.size o' } = w.alloc o' := by
 have e : (w.alloc o).heap.setIfInBounds w.heap.size o' = (w.alloc o').heap := by
  show (w.heap.push o).setIfInBounds w.heap.size o' = w.heap.push o'
  apply Array.ext'
  simp [Array.setIfInBounds, Array.toList_push]
 rw [e]
 rfl
theorem map_put (w : World) (es : Array MapEntry) (c : Nat) (s : ByteArray) (v : Value) (h : Instr.findNow .string (.string s) es.toList 0 = some none) :
  (Instr.mapUpdate 138 (.map (some w.heap.size)) (.string s) v).run Tryz.prog (w.alloc (.map es c)) = .ok () (w.alloc (.map (es.push ⟨.string s, v, c⟩) (c + 1))) := by
 have hb := alloc_obj w (.map es c)
 have hk : Tryz.prog.underlying 9 = some .string := Tryz.underlying9
 have hc : (Instr.checkKey false 10000 9 (.string s)).run Tryz.prog (w.alloc (.map es c)) = .ok () (w.alloc (.map es c)) := MapKept.run_checkKey (k := .string s) hk (by simp [MapKept.IsKey]) false 9999
 simp [Instr.mapUpdate, run_underlying Tryz.underlying138, MapKept.run_getObj_map hb, hc, MapKept.run_findKey hk h, MapKept.run_setObj_map _ hb, Result.andThen]
 exact alloc_set w _ _
section
variable {w : World}
theorem kinds_num : Calls Tryz.prog 98 #[] w fun e w' => e = .returned (.map (some w.heap.size)) ∧ w' = w.alloc (.map kindEs 4) := by
 have hmm := @run_makeMap Tryz.prog
 have h1 := map_put w #[] 0 ⟨#[100, 111, 119, 110]⟩ (kfun 142) rfl
 have h2 := map_put w #[⟨.string ⟨#[100, 111, 119, 110]⟩, kfun 142, 0⟩] 1 ⟨#[117, 112]⟩ (kfun 143) rfl
 have h3 := map_put w #[⟨.string ⟨#[100, 111, 119, 110]⟩, kfun 142, 0⟩, ⟨.string ⟨#[117, 112]⟩, kfun 143, 1⟩] 2 ⟨#[104, 97, 108, 102, 45, 117, 112]⟩ (kfun 144) rfl
 have h4 := map_put w #[⟨.string ⟨#[100, 111, 119, 110]⟩, kfun 142, 0⟩, ⟨.string ⟨#[117, 112]⟩, kfun 143, 1⟩, ⟨.string ⟨#[104, 97, 108, 102, 45, 117, 112]⟩, kfun 144, 2⟩] 3 ⟨#[104, 97, 108, 102, 45, 101, 118, 101, 110]⟩ (kfun 145) rfl
 simp only [List.push_toArray, List.cons_append, List.nil_append] at h1 h2 h3 h4
 go_enter Tryz.func98, Tryz.ntmps98
 go_wp2
 go_ret
 exact ⟨rfl, rfl⟩
end
/-- The functions of the kinds, by the kind's text. -/
def kindFn (l : List UInt8) : Option Nat := if l = kDown then some 142 else if l = kUp then some 143 else if l = kHalfUp then some 144 else if l = kHalfEven then some 145 else none
theorem sameNow_bytes (l m : List UInt8) : Instr.sameNow .string (bs l) (bs m) = some (l == m) := by
 show some (_ == _) = some (l == m)
 rw [beq_bytes]
theorem find_kind (l : List UInt8) : ∃ i, Instr.findNow .string (bs l) kindEs.toList 0 = some ((kindFn l).map fun g => (i, kfun g)) := by
 have e : kindEs.toList = [⟨bs kDown, kfun 142, 0⟩, ⟨bs kUp, kfun 143, 1⟩, ⟨bs kHalfUp, kfun 144, 2⟩, ⟨bs kHalfEven, kfun 145, 3⟩] := rfl
 rw [e]
 simp only [Instr.findNow, sameNow_bytes]
 unfold kindFn
 by_cases h1 : l = kDown
 ·exact ⟨0, by rw [if_pos h1]; simp [h1]⟩
 ·by_cases h2 : l = kUp
  ·exact ⟨1, by rw [if_neg h1, if_pos h2]; simp [h2]⟩
  ·by_cases h3 : l = kHalfUp
   ·exact ⟨2, by rw [if_neg h1, if_neg h2, if_pos h3]; simp [h3]⟩
   ·by_cases h4 : l = kHalfEven
    ·exact ⟨3, by rw [if_neg h1, if_neg h2, if_neg h3, if_pos h4]; simp [h4]⟩
    ·have e1 : (l == kDown) = false := by rw [beq_eq_false_iff_ne]; exact h1
     have e2 : (l == kUp) = false := by rw [beq_eq_false_iff_ne]; exact h2
     have e3 : (l == kHalfUp) = false := by rw [beq_eq_false_iff_ne]; exact h3
     have e4 : (l == kHalfEven) = false := by rw [beq_eq_false_iff_ne]; exact h4
     exact ⟨0, by rw [if_neg h1, if_neg h2, if_neg h3, if_neg h4, e1, e2, e3, e4]; rfl⟩
theorem zero_kind (w : World) : (zeroValue 136).run Tryz.prog w = .ok (.agg #[.nilFunc]) w := by kernel_rfl


/-- What a look-up of a kind gives. -/
def kindF (l : List UInt8) : Value := match kindFn l with | some g => .func (.func g) #[] #[] | none => .nilFunc
def kindV (l : List UInt8) : Value := .agg #[kindF l]
theorem look_kind (W : World) (b : Nat) (hb : W.heap[b]? = some (.map kindEs 4)) (l : List UInt8) (c : Bool) :
  (Instr.lookup 138 (.map (some b)) (bs l) c).run Tryz.prog W = .ok (if c then .tuple #[kindV l, .bool (kindFn l).isSome] else kindV l) W := by
 have hk : Tryz.prog.underlying 9 = some .string := Tryz.underlying9
 have hc : (Instr.checkKey kindEs.isEmpty 10000 9 (bs l)).run Tryz.prog W = .ok () W := MapKept.run_checkKey (k := bs l) hk (by simp [MapKept.IsKey]) _ 9999
 obtain ⟨i, hf⟩ := find_kind l
 have hz := zero_kind W
 cases hkf : kindFn l with
 | none =>
   rw [hkf] at hf
   simp [Instr.lookup, run_underlying Tryz.underlying138, MapKept.run_getObj_map hb, hc, MapKept.run_findKey hk hf, Result.andThen, hz, kindV, kindF, hkf]
 | some g =>
   rw [hkf] at hf
   simp [Instr.lookup, run_underlying Tryz.underlying138, MapKept.run_getObj_map hb, hc, MapKept.run_findKey hk hf, Result.andThen, kindV, kindF, hkf]
theorem heap_new {w : World} {o : Obj} {i : Nat} (h : i = w.heap.size) : (w.alloc o).heap[i]? = some o := by
 subst h; exact alloc_obj w o
theorem heap_old {w : World} {o : Obj} {i : Nat} (h : i ≠ w.heap.size) : (w.alloc o).heap[i]? = w.heap[i]? := by
 show (w.heap.push o)[i]? = _
 rw [Array.getElem?_push, if_neg h]
theorem heap_drew (w : World) (i : Nat) : w.drew.heap[i]? = w.heap[i]? := rfl
theorem look_is {W : World} {b : Nat} {l : List UInt8} {V : Value} {g : Bool} (hb : W.heap[b]? = some (.map kindEs 4)) (hV : kindF l = V) (hg : (kindFn l).isSome = g) :
  (Instr.lookup 138 (.map (some b)) (bs l) true).run Tryz.prog W = .ok (.tuple #[.agg #[V], .bool g]) W := by
 rw [look_kind W b hb, kindV, hV, hg]; rfl
theorem look_at {W : World} {b : Nat} {l : List UInt8} {V : Value} (hb : W.heap[b]? = some (.map kindEs 4)) (hV : kindF l = V) :
  (Instr.lookup 138 (.map (some b)) (bs l) false).run Tryz.prog W = .ok (.agg #[V]) W := by
 rw [look_kind W b hb, kindV, hV]; rfl
/-- What is wrong with a rule of rounding (0: nothing). -/
noncomputable def chkRule (kind step : List UInt8) : Int := if (kindFn kind).isSome = false then 20 else if chk step ≠ 0 then chk step else if numQ step ≤ 0 then 3 else 0
section
variable {w : World} {kind step : List UInt8}
abbrev rv (kind step : List UInt8) : Value := .agg #[bs kind, bs step]
theorem kind_none {l : List UInt8} (h : (kindFn l).isSome = false) : kindF l = .nilFunc := by
 unfold kindF
 cases hk : kindFn l with
 | none => rfl
 | some g => rw [hk] at h; cases h
theorem kind_some {l : List UInt8} (h : (kindFn l).isSome = true) : ∃ g, kindFn l = some g ∧ kindF l = .func (.func g) #[] #[] := by
 unfold kindF
 cases hk : kindFn l with
 | none => rw [hk] at h; cases h
 | some g => exact ⟨g, rfl, rfl⟩
theorem rule_kind (hk : (kindFn kind).isSome = false) : Calls Tryz.prog 53 #[rv kind step] w fun e w' => e = .returned (.int .i64 20) ∧ Below w.heap.size w w' := by
 have HV := qh (kind_none hk)
 have HG := qh hk
 clear hk
 go_enter Tryz.func53, Tryz.ntmps53
 go_upto_region 1 with (fail)
 go_cut [4] (fun u wx => u = .bool false ∧ Below w.heap.size w wx ∧ w.heap.size < wx.heap.size ∧ wx.cell? ⟨w.heap.size, 0, none⟩ = some (bs kind) ∧ wx.cell? ⟨w.heap.size, 1, none⟩ = some (bs step))
 case first =>
  go_region_with (first | (go_at_call 98; (with_reducible refine (kinds_num).mono ?_); rintro e1 w1 ⟨rfl, rfl⟩) | (rw [look_is (by repeat (first | exact heap_new (by simp) | rw [heap_old (by simp)] | rw [heap_drew])) HV.out HG.out]; go_simp))
  all_goals (go_wp2_with fail; go_meet; exact ⟨rfl, (bq (by with_reducible repeat' first | assumption | constructor | go_size)), by simp; omega, by simp [go_sem], by simp [go_sem]⟩)
 case rest =>
  obtain ⟨rfl, hb0, hz0, hc0, hc1⟩ := hcut
  go_wp2
  go_ret
  exact ⟨rfl, (bq (by with_reducible repeat' first | assumption | constructor | go_size))⟩
theorem rule_err {k : Int} {g : Nat} (hE : Env w) (hl : step.length < 4294967281) (hg : (kindFn kind).isSome = true) (hk : chk step = k) (h0 : k ≠ 0) : Calls Tryz.prog 53 #[rv kind step] w fun e w' => e = .returned (.int .i64 k) ∧ Below w.heap.size w w' := by
 obtain ⟨g, hg1, hg2⟩ := kind_some hg
 have HV := qh hg2
 have HG := qh hg
 have HE := qh hE
 have HL := qh hl
 have HK := qh hk
 have q1 : (k != 0) = true := by rw [bne_iff_ne]; exact h0
 clear hE hl hk h0 hg hg1 hg2
 go_enter Tryz.func53, Tryz.ntmps53
 go_upto_region 1 with (fail)
 go_cut [4] (fun u wx => u = .bool true ∧ Below w.heap.size w wx ∧ w.heap.size < wx.heap.size ∧ wx.cell? ⟨w.heap.size, 0, none⟩ = some (bs kind) ∧ wx.cell? ⟨w.heap.size, 1, none⟩ = some (bs step))
 case first =>
  go_region_with (first | (go_at_call 98; (with_reducible refine (kinds_num).mono ?_); rintro e1 w1 ⟨rfl, rfl⟩) | (rw [look_is (by repeat (first | exact heap_new (by simp) | rw [heap_old (by simp)] | rw [heap_drew])) HV.out HG.out]; go_simp))
  all_goals (go_wp2_with fail; go_meet; exact ⟨rfl, (bq (by with_reducible repeat' first | assumption | constructor | go_size)), by simp; omega, by simp [go_sem], by simp [go_sem]⟩)
 case rest =>
  obtain ⟨rfl, hb0, hz0, hc0, hc1⟩ := hcut
  go_wp2_with (go_at_call 52; ((with_reducible refine (check_fact HK.out (HE.out.below (bq (by with_reducible repeat' first | assumption | constructor | go_size))) HL.out).mono ?_); rintro e1 w1 ⟨rfl, hb1⟩); obtain ⟨hc1, hf1⟩ := bcell hb1; (try simp only [dw] at hc1 hf1))
  go_ret
  exact ⟨rfl, (bq (by with_reducible repeat' first | assumption | constructor | go_size))⟩
theorem rule_sign {x : Rat} {k : Int} (hE : Env w) (hl : step.length < 4294967281) (hg : (kindFn kind).isSome = true) (hx : IsNum step x) (hk : sgn x.num = k) (h0 : k ≤ 0) : Calls Tryz.prog 53 #[rv kind step] w fun e w' => e = .returned (.int .i64 3) ∧ Below w.heap.size w w' := by
 have q1 : decide (k ≤ 0) = true := by simp; exact h0
 obtain ⟨g, hg1, hg2⟩ := kind_some hg
 have HV := qh hg2
 have HG := qh hg
 have HE := qh hE
 have HL := qh hl
 have HK := qh (chk_zero.2 ⟨x, hx⟩)
 have HX := qh hx
 have HS := qh hk
 clear hE hl hk hg hg1 hg2 hx h0
 go_enter Tryz.func53, Tryz.ntmps53
 go_upto_region 1 with (fail)
 go_cut [4] (fun u wx => u = .bool true ∧ Below w.heap.size w wx ∧ w.heap.size < wx.heap.size ∧ wx.cell? ⟨w.heap.size, 0, none⟩ = some (bs kind) ∧ wx.cell? ⟨w.heap.size, 1, none⟩ = some (bs step))
 case first =>
  go_region_with (first | (go_at_call 98; (with_reducible refine (kinds_num).mono ?_); rintro e1 w1 ⟨rfl, rfl⟩) | (rw [look_is (by repeat (first | exact heap_new (by simp) | rw [heap_old (by simp)] | rw [heap_drew])) HV.out HG.out]; go_simp))
  all_goals (go_wp2_with fail; go_meet; exact ⟨rfl, (bq (by with_reducible repeat' first | assumption | constructor | go_size)), by simp; omega, by simp [go_sem], by simp [go_sem]⟩)
 case rest =>
  obtain ⟨rfl, hb0, hz0, hc0, hc1⟩ := hcut
  go_wp2_with (first
   | (go_at_call 52; ((with_reducible refine (check_fact HK.out (HE.out.below (bq (by with_reducible repeat' first | assumption | constructor | go_size))) HL.out).mono ?_); rintro e1 w1 ⟨rfl, hb1⟩); obtain ⟨hc1, hf1⟩ := bcell hb1; (try simp only [dw] at hc1 hf1))
   | (go_at_call 55; ((with_reducible refine (from_fact HX.out (HE.out.below (bq (by with_reducible repeat' first | assumption | constructor | go_size)))).mono ?_); rintro e2 w2 ⟨s2, A2, n2, c2, t2, B2, m2, d2, rfl, ⟨hr2, hq2⟩, hb2⟩); obtain ⟨hc2, hf2⟩ := bcell hb2; (try simp only [dw] at hc2 hf2))
   | (go_at_call 99; ((with_reducible refine (fsign_fact HS.out ⟨hr2, hq2⟩).mono ?_); rintro e3 w3 ⟨rfl, hb3⟩); obtain ⟨hc3, hf3⟩ := bcell hb3; (try simp only [dw] at hc3 hf3)))
  go_ret
  exact ⟨rfl, (bq (by with_reducible repeat' first | assumption | constructor | go_size))⟩
theorem rule_ok {x : Rat} {k : Int} (hE : Env w) (hl : step.length < 4294967281) (hg : (kindFn kind).isSome = true) (hx : IsNum step x) (hk : sgn x.num = k) (h0 : 0 < k) : Calls Tryz.prog 53 #[rv kind step] w fun e w' => e = .returned (.int .i64 0) ∧ Below w.heap.size w w' := by
 have q1 : decide (k ≤ 0) = false := by simp; exact h0
 obtain ⟨g, hg1, hg2⟩ := kind_some hg
 have HV := qh hg2
 have HG := qh hg
 have HE := qh hE
 have HL := qh hl
 have HK := qh (chk_zero.2 ⟨x, hx⟩)
 have HX := qh hx
 have HS := qh hk
 clear hE hl hk hg hg1 hg2 hx h0
 go_enter Tryz.func53, Tryz.ntmps53
 go_upto_region 1 with (fail)
 go_cut [4] (fun u wx => u = .bool true ∧ Below w.heap.size w wx ∧ w.heap.size < wx.heap.size ∧ wx.cell? ⟨w.heap.size, 0, none⟩ = some (bs kind) ∧ wx.cell? ⟨w.heap.size, 1, none⟩ = some (bs step))
 case first =>
  go_region_with (first | (go_at_call 98; (with_reducible refine (kinds_num).mono ?_); rintro e1 w1 ⟨rfl, rfl⟩) | (rw [look_is (by repeat (first | exact heap_new (by simp) | rw [heap_old (by simp)] | rw [heap_drew])) HV.out HG.out]; go_simp))
  all_goals (go_wp2_with fail; go_meet; exact ⟨rfl, (bq (by with_reducible repeat' first | assumption | constructor | go_size)), by simp; omega, by simp [go_sem], by simp [go_sem]⟩)
 case rest =>
  obtain ⟨rfl, hb0, hz0, hc0, hc1⟩ := hcut
  go_wp2_with (first
   | (go_at_call 52; ((with_reducible refine (check_fact HK.out (HE.out.below (bq (by with_reducible repeat' first | assumption | constructor | go_size))) HL.out).mono ?_); rintro e1 w1 ⟨rfl, hb1⟩); obtain ⟨hc1, hf1⟩ := bcell hb1; (try simp only [dw] at hc1 hf1))
   | (go_at_call 55; ((with_reducible refine (from_fact HX.out (HE.out.below (bq (by with_reducible repeat' first | assumption | constructor | go_size)))).mono ?_); rintro e2 w2 ⟨s2, A2, n2, c2, t2, B2, m2, d2, rfl, ⟨hr2, hq2⟩, hb2⟩); obtain ⟨hc2, hf2⟩ := bcell hb2; (try simp only [dw] at hc2 hf2))
   | (go_at_call 99; ((with_reducible refine (fsign_fact HS.out ⟨hr2, hq2⟩).mono ?_); rintro e3 w3 ⟨rfl, hb3⟩); obtain ⟨hc3, hf3⟩ := bcell hb3; (try simp only [dw] at hc3 hf3)))
  go_ret
  exact ⟨rfl, (bq (by with_reducible repeat' first | assumption | constructor | go_size))⟩
theorem sgn_pos {x : Rat} : 0 < sgn x.num ↔ 0 < x := by
 have h : 0 < x ↔ 0 < x.num := by rw [Rat.lt_iff]; simp
 rw [h]; unfold sgn; split
 ·omega
 ·split <;> omega
/-- The contract of checking a rule. -/
theorem rule_num (hE : Env w) (hl : step.length < 4294967281) : Calls Tryz.prog 53 #[rv kind step] w fun e w' => e = .returned (.int .i64 (chkRule kind step)) ∧ Below w.heap.size w w' := by
 unfold chkRule
 cases hk : (kindFn kind).isSome with
 | false => exact rule_kind hk
 | true =>
   rw [if_neg (by decide)]
   by_cases h : chk step = 0
   ·rw [if_neg (by simpa using h)]
    have hx := numQ_is h
    generalize numQ step = x at hx
    by_cases h0 : x ≤ 0
    ·rw [if_pos h0]
     exact rule_sign hE hl hk hx rfl (Int.not_lt.1 fun h1 => Rat.not_le.2 (sgn_pos.1 h1) h0)
    ·rw [if_neg h0]
     exact rule_ok hE hl hk hx rfl (sgn_pos.2 (Rat.not_le.1 h0))
   ·rw [if_pos h]; exact rule_err (g := 0) hE hl hk rfl h
end
end Go.Proofs.YtoccfcpggomlaaaGreatDoor
