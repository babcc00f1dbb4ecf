/- Parts. -/
import Derived.Test.YthciialjockjmaaGreatDoorMpG
import Derived.MapKept
import Derived.Laws.EntriesVeiled
import Derived.Deep.CutRange
set_option linter.all false
set_option maxRecDepth 100000
set_option maxHeartbeats 8000000
namespace Go.Proofs.YthciialjockjmaaGreatDoor
open Go Go.RowKit

abbrev jcG:List UInt8:=[100,111,119,110]
abbrev kUp:List UInt8:=[117,112]
abbrev jaW:List UInt8:=[104,97,108,102,45,117,112]
abbrev jaC:List UInt8:=[104,97,108,102,45,101,118,101,110]
abbrev jfN (g:Nat):Value:= .agg #[.func (.func g) #[] #[]]
def jdU:Array MapEntry:= #[⟨.string ⟨#[100,111,119,110]⟩,jfN 118,0⟩,⟨.string ⟨#[117,112]⟩,jfN 119,1⟩,⟨.string ⟨#[104,97,108,102,45,117,112]⟩,jfN 120,2⟩,⟨.string ⟨#[104,97,108,102,45,101,118,101,110]⟩,jfN 121,3⟩]
theorem jgM (w:World) (o:Obj):(w.alloc o).heap[w.heap.size]? =some o:=by
 show (w.heap.push o)[w.heap.size]? =_
 simp
theorem jlf (w:World) (o o':Obj):{ w.alloc o with heap:=(w.alloc o).heap.setIfInBounds w.heap.size o' }=w.alloc o':=by
 have e:(w.alloc o).heap.setIfInBounds w.heap.size o'=(w.alloc o').heap:=by
  show (w.heap.push o).setIfInBounds w.heap.size o'=w.heap.push o'
  apply Array.ext'
  simp [Array.setIfInBounds,Array.toList_push]
 rw [e]
 rfl
theorem jfx (w:World) (es:Array MapEntry) (c:Nat) (s:ByteArray) (v:Value) (h:Instr.findNow .string (.string s) es.toList 0=some none):
  (Instr.mapUpdate 122 (.map (some w.heap.size)) (.string s) v).run Tryz.prog (w.alloc (.map es c))= .ok () (w.alloc (.map (es.push ⟨.string s,v,c⟩) (c+1))):=by
 have hb:=jgM w (.map es c)
 have hk:Tryz.prog.underlying 9=some .string:=Tryz.underlying9
 have hc:(Instr.checkKey false 10000 9 (.string s)).run Tryz.prog (w.alloc (.map es c))= .ok () (w.alloc (.map es c)):=MapKept.run_checkKey (k:= .string s) hk (by simp [MapKept.IsKey]) false 9999
 simp [Instr.mapUpdate,run_underlying Tryz.underlying122,MapKept.run_getObj_map hb,hc,MapKept.run_findKey hk h,MapKept.run_setObj_map _ hb,Result.andThen]
 exact jlf w _ _
section
variable {w:World}
theorem jcf:Calls Tryz.prog 79 #[] w fun e w'=>e= .returned (.map (some w.heap.size))∧w'=w.alloc (.map jdU 4):=by
 have hmm:= @run_makeMap Tryz.prog
 have h1:=jfx w #[] 0 ⟨#[100,111,119,110]⟩ (jfN 118) rfl
 have h2:=jfx w #[⟨.string ⟨#[100,111,119,110]⟩,jfN 118,0⟩] 1 ⟨#[117,112]⟩ (jfN 119) rfl
 have h3:=jfx w #[⟨.string ⟨#[100,111,119,110]⟩,jfN 118,0⟩,⟨.string ⟨#[117,112]⟩,jfN 119,1⟩] 2 ⟨#[104,97,108,102,45,117,112]⟩ (jfN 120) rfl
 have h4:=jfx w #[⟨.string ⟨#[100,111,119,110]⟩,jfN 118,0⟩,⟨.string ⟨#[117,112]⟩,jfN 119,1⟩,⟨.string ⟨#[104,97,108,102,45,117,112]⟩,jfN 120,2⟩] 3 ⟨#[104,97,108,102,45,101,118,101,110]⟩ (jfN 121) rfl
 simp only [List.push_toArray,List.cons_append,List.nil_append] at h1 h2 h3 h4
 go_enter Tryz.func79,Tryz.ntmps79
 go_wp2
 go_ret
 exact ⟨rfl,rfl⟩
end
def jaw (l:List UInt8):Option Nat:=if l=jcG then some 118 else if l=kUp then some 119 else if l=jaW then some 120 else if l=jaC then some 121 else none
theorem jfX (l m:List UInt8):Instr.sameNow .string (bs l) (bs m)=some (l==m):=by
 show some (_==_)=some (l==m)
 rw [jgY]
theorem jkW (l:List UInt8):∃i,Instr.findNow .string (bs l) jdU.toList 0=some ((jaw l).map fun g=>(i,jfN g)):=by
 have e:jdU.toList=[⟨bs jcG,jfN 118,0⟩,⟨bs kUp,jfN 119,1⟩,⟨bs jaW,jfN 120,2⟩,⟨bs jaC,jfN 121,3⟩]:=rfl
 rw [e]
 simp only [Instr.findNow,jfX]
 unfold jaw
 by_cases h1:l=jcG
 ·exact ⟨0,by rw [if_pos h1];simp [h1]⟩
 ·by_cases h2:l=kUp
  ·exact ⟨1,by rw [if_neg h1,if_pos h2];simp [h2]⟩
  ·by_cases h3:l=jaW
   ·exact ⟨2,by rw [if_neg h1,if_neg h2,if_pos h3];simp [h3]⟩
   ·by_cases h4:l=jaC
    ·exact ⟨3,by rw [if_neg h1,if_neg h2,if_neg h3,if_pos h4];simp [h4]⟩
    ·have e1:(l==jcG)=false:=by rw [beq_eq_false_iff_ne];exact h1
     have e2:(l==kUp)=false:=by rw [beq_eq_false_iff_ne];exact h2
     have e3:(l==jaW)=false:=by rw [beq_eq_false_iff_ne];exact h3
     have e4:(l==jaC)=false:=by rw [beq_eq_false_iff_ne];exact h4
     exact ⟨0,by rw [if_neg h1,if_neg h2,if_neg h3,if_neg h4,e1,e2,e3,e4];rfl⟩
theorem jku (w:World):(zeroValue 120).run Tryz.prog w= .ok (.agg #[.nilFunc]) w:=by kernel_rfl


def jfW (l:List UInt8):Value:=match jaw l with|some g=> .func (.func g) #[] #[]|none=> .nilFunc
def jiR (l:List UInt8):Value:= .agg #[jfW l]
theorem jh4 (W:World) (b:Nat) (hb:W.heap[b]? =some (.map jdU 4)) (l:List UInt8) (c:Bool):
  (Instr.lookup 122 (.map (some b)) (bs l) c).run Tryz.prog W= .ok (if c then .tuple #[jiR l, .bool (jaw l).isSome] else jiR l) W:=by
 have hk:Tryz.prog.underlying 9=some .string:=Tryz.underlying9
 have hc:(Instr.checkKey jdU.isEmpty 10000 9 (bs l)).run Tryz.prog W= .ok () W:=MapKept.run_checkKey (k:=bs l) hk (by simp [MapKept.IsKey]) _ 9999
 obtain ⟨i,hf⟩:=jkW l
 have hz:=jku W
 cases hkf:jaw l with
 | none=>
   rw [hkf] at hf
   simp [Instr.lookup,run_underlying Tryz.underlying122,MapKept.run_getObj_map hb,hc,MapKept.run_findKey hk hf,Result.andThen,hz,jiR,jfW,hkf]
 | some g=>
   rw [hkf] at hf
   simp [Instr.lookup,run_underlying Tryz.underlying122,MapKept.run_getObj_map hb,hc,MapKept.run_findKey hk hf,Result.andThen,jiR,jfW,hkf]
theorem jbE {w:World} {o:Obj} {i:Nat} (h:i=w.heap.size):(w.alloc o).heap[i]? =some o:=by
 subst h;exact jgM w o
theorem jdO {w:World} {o:Obj} {i:Nat} (h:i≠w.heap.size):(w.alloc o).heap[i]? =w.heap[i]? :=by
 show (w.heap.push o)[i]? =_
 rw [Array.getElem?_push,if_neg h]
theorem jd0 (w:World) (i:Nat):w.drew.heap[i]? =w.heap[i]? :=rfl
theorem jfn {W:World} {b:Nat} {l:List UInt8} {V:Value} {g:Bool} (hb:W.heap[b]? =some (.map jdU 4)) (hV:jfW l=V) (hg:(jaw l).isSome=g):
  (Instr.lookup 122 (.map (some b)) (bs l) true).run Tryz.prog W= .ok (.tuple #[.agg #[V], .bool g]) W:=by
 rw [jh4 W b hb,jiR,hV,hg];rfl
theorem jjP {W:World} {b:Nat} {l:List UInt8} {V:Value} (hb:W.heap[b]? =some (.map jdU 4)) (hV:jfW l=V):
  (Instr.lookup 122 (.map (some b)) (bs l) false).run Tryz.prog W= .ok (.agg #[V]) W:=by
 rw [jh4 W b hb,jiR,hV];rfl
noncomputable def jba (kind step:List UInt8):Int:=if (jaw kind).isSome=false then 20 else if chk step≠0 then chk step else if numQ step≤0 then 3 else 0
section
variable {w:World} {kind step:List UInt8}
abbrev rv (kind step:List UInt8):Value:= .agg #[bs kind,bs step]
theorem jlv {l:List UInt8} (h:(jaw l).isSome=false):jfW l= .nilFunc:=by
 unfold jfW
 cases hk:jaw l with
 | none=>rfl
 | some g=>rw [hk] at h;cases h
theorem jd5 {l:List UInt8} (h:(jaw l).isSome=true):∃g,jaw l=some g∧jfW l= .func (.func g) #[] #[]:=by
 unfold jfW
 cases hk:jaw l with
 | none=>rw [hk] at h;cases h
 | some g=>exact ⟨g,rfl,rfl⟩
theorem jl5 (hk:(jaw kind).isSome=false):Calls Tryz.prog 29 #[rv kind step] w fun e w'=>e= .returned (.int .i64 20)∧Below w.heap.size w w':=by
 have HV:=qh (jlv hk)
 have HG:=qh hk
 clear hk
 go_enter Tryz.func29,Tryz.ntmps29
 go_upto_region 1 with (fail)
 go_cut [4] (fun u wx=>u= .bool false∧Below w.heap.size w wx∧w.heap.size < wx.heap.size∧wx.cell? ⟨w.heap.size,0,none⟩=some (bs kind)∧wx.cell? ⟨w.heap.size,1,none⟩=some (bs step))
 case first=>
  go_region_with (first|(go_at_call 79;(with_reducible refine (jcf).mono ?_);rintro e1 w1 ⟨rfl,rfl⟩)|(rw [jfn (by repeat (first|exact jbE (by simp)|rw [jdO (by simp)]|rw [jd0])) HV.out HG.out];go_simp))
  all_goals (go_wp2_with fail;go_meet;exact ⟨rfl,(bq (by with_reducible repeat' first|assumption|constructor|go_size)),by simp;omega,by simp [go_sem],by simp [go_sem]⟩)
 case rest=>
  obtain ⟨rfl,hb0,hz0,hc0,hc1⟩:=hcut
  go_wp2
  go_ret
  exact ⟨rfl,(bq (by with_reducible repeat' first|assumption|constructor|go_size))⟩
theorem jma {k:Int} {g:Nat} (hE:Env w) (hl:step.length < 4294967281) (hg:(jaw kind).isSome=true) (hk:chk step=k) (h0:k≠0):Calls Tryz.prog 29 #[rv kind step] w fun e w'=>e= .returned (.int .i64 k)∧Below w.heap.size w w':=by
 obtain ⟨g,hg1,hg2⟩:=jd5 hg
 have HV:=qh hg2
 have HG:=qh hg
 have HE:=qh hE
 have HL:=qh hl
 have HK:=qh hk
 have q1:(k != 0)=true:=by rw [bne_iff_ne];exact h0
 clear hE hl hk h0 hg hg1 hg2
 go_enter Tryz.func29,Tryz.ntmps29
 go_upto_region 1 with (fail)
 go_cut [4] (fun u wx=>u= .bool true∧Below w.heap.size w wx∧w.heap.size < wx.heap.size∧wx.cell? ⟨w.heap.size,0,none⟩=some (bs kind)∧wx.cell? ⟨w.heap.size,1,none⟩=some (bs step))
 case first=>
  go_region_with (first|(go_at_call 79;(with_reducible refine (jcf).mono ?_);rintro e1 w1 ⟨rfl,rfl⟩)|(rw [jfn (by repeat (first|exact jbE (by simp)|rw [jdO (by simp)]|rw [jd0])) HV.out HG.out];go_simp))
  all_goals (go_wp2_with fail;go_meet;exact ⟨rfl,(bq (by with_reducible repeat' first|assumption|constructor|go_size)),by simp;omega,by simp [go_sem],by simp [go_sem]⟩)
 case rest=>
  obtain ⟨rfl,hb0,hz0,hc0,hc1⟩:=hcut
  go_wp2_with (go_at_call 28;(with_reducible refine (jaN HK.out (HE.out.below (bq (by with_reducible repeat' first|assumption|constructor|go_size))) HL.out).mono ?_);rintro e1 w1 ⟨rfl,hb1⟩;obtain ⟨hc1,hf1⟩:=ja0 hb1;(try simp only [dw] at hc1 hf1))
  go_ret
  exact ⟨rfl,(bq (by with_reducible repeat' first|assumption|constructor|go_size))⟩
theorem jk1 {x:Rat} {k:Int} (hE:Env w) (hl:step.length < 4294967281) (hg:(jaw kind).isSome=true) (hx:IsNum step x) (hk:sgn x.num=k) (h0:k≤0):Calls Tryz.prog 29 #[rv kind step] w fun e w'=>e= .returned (.int .i64 3)∧Below w.heap.size w w':=by
 have q1:decide (k≤0)=true:=by simp;exact h0
 obtain ⟨g,hg1,hg2⟩:=jd5 hg
 have HV:=qh hg2
 have HG:=qh hg
 have HE:=qh hE
 have HL:=qh hl
 have HK:=qh (jau.2 ⟨x,hx⟩)
 have HX:=qh hx
 have HS:=qh hk
 clear hE hl hk hg hg1 hg2 hx h0
 go_enter Tryz.func29,Tryz.ntmps29
 go_upto_region 1 with (fail)
 go_cut [4] (fun u wx=>u= .bool true∧Below w.heap.size w wx∧w.heap.size < wx.heap.size∧wx.cell? ⟨w.heap.size,0,none⟩=some (bs kind)∧wx.cell? ⟨w.heap.size,1,none⟩=some (bs step))
 case first=>
  go_region_with (first|(go_at_call 79;(with_reducible refine (jcf).mono ?_);rintro e1 w1 ⟨rfl,rfl⟩)|(rw [jfn (by repeat (first|exact jbE (by simp)|rw [jdO (by simp)]|rw [jd0])) HV.out HG.out];go_simp))
  all_goals (go_wp2_with fail;go_meet;exact ⟨rfl,(bq (by with_reducible repeat' first|assumption|constructor|go_size)),by simp;omega,by simp [go_sem],by simp [go_sem]⟩)
 case rest=>
  obtain ⟨rfl,hb0,hz0,hc0,hc1⟩:=hcut
  go_wp2_with (first
   | (go_at_call 28;(with_reducible refine (jaN HK.out (HE.out.below (bq (by with_reducible repeat' first|assumption|constructor|go_size))) HL.out).mono ?_);rintro e1 w1 ⟨rfl,hb1⟩;obtain ⟨hc1,hf1⟩:=ja0 hb1;(try simp only [dw] at hc1 hf1))
   | (go_at_call 32;(with_reducible refine (jav HX.out (HE.out.below (bq (by with_reducible repeat' first|assumption|constructor|go_size)))).mono ?_);rintro e2 w2 ⟨s2,A2,n2,c2,t2,B2,m2,d2,rfl,⟨hr2,hq2⟩,hb2⟩;obtain ⟨hc2,hf2⟩:=ja0 hb2;(try simp only [dw] at hc2 hf2))
   | (go_at_call 80;(with_reducible refine (jb5 HS.out ⟨hr2,hq2⟩).mono ?_);rintro e3 w3 ⟨rfl,hb3⟩;obtain ⟨hc3,hf3⟩:=ja0 hb3;(try simp only [dw] at hc3 hf3)))
  go_ret
  exact ⟨rfl,(bq (by with_reducible repeat' first|assumption|constructor|go_size))⟩
theorem joj {x:Rat} {k:Int} (hE:Env w) (hl:step.length < 4294967281) (hg:(jaw kind).isSome=true) (hx:IsNum step x) (hk:sgn x.num=k) (h0:0 < k):Calls Tryz.prog 29 #[rv kind step] w fun e w'=>e= .returned (.int .i64 0)∧Below w.heap.size w w':=by
 have q1:decide (k≤0)=false:=by simp;exact h0
 obtain ⟨g,hg1,hg2⟩:=jd5 hg
 have HV:=qh hg2
 have HG:=qh hg
 have HE:=qh hE
 have HL:=qh hl
 have HK:=qh (jau.2 ⟨x,hx⟩)
 have HX:=qh hx
 have HS:=qh hk
 clear hE hl hk hg hg1 hg2 hx h0
 go_enter Tryz.func29,Tryz.ntmps29
 go_upto_region 1 with (fail)
 go_cut [4] (fun u wx=>u= .bool true∧Below w.heap.size w wx∧w.heap.size < wx.heap.size∧wx.cell? ⟨w.heap.size,0,none⟩=some (bs kind)∧wx.cell? ⟨w.heap.size,1,none⟩=some (bs step))
 case first=>
  go_region_with (first|(go_at_call 79;(with_reducible refine (jcf).mono ?_);rintro e1 w1 ⟨rfl,rfl⟩)|(rw [jfn (by repeat (first|exact jbE (by simp)|rw [jdO (by simp)]|rw [jd0])) HV.out HG.out];go_simp))
  all_goals (go_wp2_with fail;go_meet;exact ⟨rfl,(bq (by with_reducible repeat' first|assumption|constructor|go_size)),by simp;omega,by simp [go_sem],by simp [go_sem]⟩)
 case rest=>
  obtain ⟨rfl,hb0,hz0,hc0,hc1⟩:=hcut
  go_wp2_with (first
   | (go_at_call 28;(with_reducible refine (jaN HK.out (HE.out.below (bq (by with_reducible repeat' first|assumption|constructor|go_size))) HL.out).mono ?_);rintro e1 w1 ⟨rfl,hb1⟩;obtain ⟨hc1,hf1⟩:=ja0 hb1;(try simp only [dw] at hc1 hf1))
   | (go_at_call 32;(with_reducible refine (jav HX.out (HE.out.below (bq (by with_reducible repeat' first|assumption|constructor|go_size)))).mono ?_);rintro e2 w2 ⟨s2,A2,n2,c2,t2,B2,m2,d2,rfl,⟨hr2,hq2⟩,hb2⟩;obtain ⟨hc2,hf2⟩:=ja0 hb2;(try simp only [dw] at hc2 hf2))
   | (go_at_call 80;(with_reducible refine (jb5 HS.out ⟨hr2,hq2⟩).mono ?_);rintro e3 w3 ⟨rfl,hb3⟩;obtain ⟨hc3,hf3⟩:=ja0 hb3;(try simp only [dw] at hc3 hf3)))
  go_ret
  exact ⟨rfl,(bq (by with_reducible repeat' first|assumption|constructor|go_size))⟩
theorem jl8 {x:Rat}:0 < sgn x.num↔0 < x:=by
 have h:0 < x↔0 < x.num:=by rw [Rat.lt_iff];simp
 rw [h];unfold sgn;split
 ·omega
 ·split <;> omega
theorem jmC (hE:Env w) (hl:step.length < 4294967281):Calls Tryz.prog 29 #[rv kind step] w fun e w'=>e= .returned (.int .i64 (jba kind step))∧Below w.heap.size w w':=by
 unfold jba
 cases hk:(jaw kind).isSome with
 | false=>exact jl5 hk
 | true=>
   rw [if_neg (by decide)]
   by_cases h:chk step=0
   ·rw [if_neg (by simpa using h)]
    have hx:=jbw h
    generalize numQ step=x at hx
    by_cases h0:x≤0
    ·rw [if_pos h0]
     exact jk1 hE hl hk hx rfl (Int.not_lt.1 fun h1=>Rat.not_le.2 (jl8.1 h1) h0)
    ·rw [if_neg h0]
     exact joj hE hl hk hx rfl (jl8.2 (Rat.not_le.1 h0))
   ·rw [if_pos h];exact jma (g:=0) hE hl hk rfl h
end
end Go.Proofs.YthciialjockjmaaGreatDoor
