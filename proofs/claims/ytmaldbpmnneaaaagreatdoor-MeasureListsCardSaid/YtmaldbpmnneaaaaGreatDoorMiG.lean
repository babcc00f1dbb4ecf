/- Parts. -/
import Derived.Test.YtmaldbpmnneaaaaGreatDoorMpG
import Derived.MapKept
import Derived.Laws.EntriesVeiled
import Derived.Deep.CutRange
set_option linter.all false
set_option maxRecDepth 100000
set_option maxHeartbeats 8000000
namespace Go.Proofs.YtmaldbpmnneaaaaGreatDoor
open Go Go.RowKit

abbrev jiB:List UInt8:=[100,111,119,110]
abbrev kUp:List UInt8:=[117,112]
abbrev jcZ:List UInt8:=[104,97,108,102,45,117,112]
abbrev jbW:List UInt8:=[104,97,108,102,45,101,118,101,110]
abbrev jfX (g:Nat):Value:= .agg #[.func (.func g) #[] #[]]
def jeT:Array MapEntry:= #[⟨.string ⟨#[100,111,119,110]⟩,jfX 147,0⟩,⟨.string ⟨#[117,112]⟩,jfX 148,1⟩,⟨.string ⟨#[104,97,108,102,45,117,112]⟩,jfX 149,2⟩,⟨.string ⟨#[104,97,108,102,45,101,118,101,110]⟩,jfX 150,3⟩]
theorem jhz (w:World) (o:Obj):(w.alloc o).heap[w.heap.size]? =some o:=by
 show (w.heap.push o)[w.heap.size]? =_
 simp
theorem jlT (w:World) (o o':Obj):{ w.alloc o with heap:=(w.alloc o).heap.setIfInBounds w.heap.size o' }=w.alloc o':=by
 have e:(w.alloc o).heap.setIfInBounds w.heap.size o'=(w.alloc o').heap:=by
  show (w.heap.push o).setIfInBounds w.heap.size o'=w.heap.push o'
  apply Array.ext'
  simp [Array.setIfInBounds,Array.toList_push]
 rw [e]
 rfl
theorem jg5 (w:World) (es:Array MapEntry) (c:Nat) (s:ByteArray) (v:Value) (h:Instr.findNow .string (.string s) es.toList 0=some none):
  (Instr.mapUpdate 137 (.map (some w.heap.size)) (.string s) v).run Tryz.prog (w.alloc (.map es c))= .ok () (w.alloc (.map (es.push ⟨.string s,v,c⟩) (c+1))):=by
 have hb:=jhz w (.map es c)
 have hk:Tryz.prog.underlying 9=some .string:=Tryz.underlying9
 have hc:(Instr.checkKey false 10000 9 (.string s)).run Tryz.prog (w.alloc (.map es c))= .ok () (w.alloc (.map es c)):=MapKept.run_checkKey (k:= .string s) hk (by simp [MapKept.IsKey]) false 9999
 simp [Instr.mapUpdate,run_underlying Tryz.underlying137,MapKept.run_getObj_map hb,hc,MapKept.run_findKey hk h,MapKept.run_setObj_map _ hb,Result.andThen]
 exact jlT w _ _
section
variable {w:World}
theorem jcb:Calls Tryz.prog 98 #[] w fun e w'=>e= .returned (.map (some w.heap.size))∧w'=w.alloc (.map jeT 4):=by
 have hmm:= @run_makeMap Tryz.prog
 have h1:=jg5 w #[] 0 ⟨#[100,111,119,110]⟩ (jfX 147) rfl
 have h2:=jg5 w #[⟨.string ⟨#[100,111,119,110]⟩,jfX 147,0⟩] 1 ⟨#[117,112]⟩ (jfX 148) rfl
 have h3:=jg5 w #[⟨.string ⟨#[100,111,119,110]⟩,jfX 147,0⟩,⟨.string ⟨#[117,112]⟩,jfX 148,1⟩] 2 ⟨#[104,97,108,102,45,117,112]⟩ (jfX 149) rfl
 have h4:=jg5 w #[⟨.string ⟨#[100,111,119,110]⟩,jfX 147,0⟩,⟨.string ⟨#[117,112]⟩,jfX 148,1⟩,⟨.string ⟨#[104,97,108,102,45,117,112]⟩,jfX 149,2⟩] 3 ⟨#[104,97,108,102,45,101,118,101,110]⟩ (jfX 150) rfl
 simp only [List.push_toArray,List.cons_append,List.nil_append] at h1 h2 h3 h4
 go_enter Tryz.func98,Tryz.ntmps98
 go_wp2
 go_ret
 exact ⟨rfl,rfl⟩
end
def jaM (l:List UInt8):Option Nat:=if l=jiB then some 147 else if l=kUp then some 148 else if l=jcZ then some 149 else if l=jbW then some 150 else none
theorem jfO (l m:List UInt8):Instr.sameNow .string (bs l) (bs m)=some (l==m):=by
 show some (_==_)=some (l==m)
 rw [jhr]
theorem jm9 (l:List UInt8):∃i,Instr.findNow .string (bs l) jeT.toList 0=some ((jaM l).map fun g=>(i,jfX g)):=by
 have e:jeT.toList=[⟨bs jiB,jfX 147,0⟩,⟨bs kUp,jfX 148,1⟩,⟨bs jcZ,jfX 149,2⟩,⟨bs jbW,jfX 150,3⟩]:=rfl
 rw [e]
 simp only [Instr.findNow,jfO]
 unfold jaM
 by_cases h1:l=jiB
 ·exact ⟨0,by rw [if_pos h1];simp [h1]⟩
 ·by_cases h2:l=kUp
  ·exact ⟨1,by rw [if_neg h1,if_pos h2];simp [h2]⟩
  ·by_cases h3:l=jcZ
   ·exact ⟨2,by rw [if_neg h1,if_neg h2,if_pos h3];simp [h3]⟩
   ·by_cases h4:l=jbW
    ·exact ⟨3,by rw [if_neg h1,if_neg h2,if_neg h3,if_pos h4];simp [h4]⟩
    ·have e1:(l==jiB)=false:=by rw [beq_eq_false_iff_ne];exact h1
     have e2:(l==kUp)=false:=by rw [beq_eq_false_iff_ne];exact h2
     have e3:(l==jcZ)=false:=by rw [beq_eq_false_iff_ne];exact h3
     have e4:(l==jbW)=false:=by rw [beq_eq_false_iff_ne];exact h4
     exact ⟨0,by rw [if_neg h1,if_neg h2,if_neg h3,if_neg h4,e1,e2,e3,e4];rfl⟩
theorem jl1 (w:World):(zeroValue 135).run Tryz.prog w= .ok (.agg #[.nilFunc]) w:=by kernel_rfl


def jfK (l:List UInt8):Value:=match jaM l with|some g=> .func (.func g) #[] #[]|none=> .nilFunc
def jkr (l:List UInt8):Value:= .agg #[jfK l]
theorem jhc (W:World) (b:Nat) (hb:W.heap[b]? =some (.map jeT 4)) (l:List UInt8) (c:Bool):
  (Instr.lookup 137 (.map (some b)) (bs l) c).run Tryz.prog W= .ok (if c then .tuple #[jkr l, .bool (jaM l).isSome] else jkr l) W:=by
 have hk:Tryz.prog.underlying 9=some .string:=Tryz.underlying9
 have hc:(Instr.checkKey jeT.isEmpty 10000 9 (bs l)).run Tryz.prog W= .ok () W:=MapKept.run_checkKey (k:=bs l) hk (by simp [MapKept.IsKey]) _ 9999
 obtain ⟨i,hf⟩:=jm9 l
 have hz:=jl1 W
 cases hkf:jaM l with
 | none=>
   rw [hkf] at hf
   simp [Instr.lookup,run_underlying Tryz.underlying137,MapKept.run_getObj_map hb,hc,MapKept.run_findKey hk hf,Result.andThen,hz,jkr,jfK,hkf]
 | some g=>
   rw [hkf] at hf
   simp [Instr.lookup,run_underlying Tryz.underlying137,MapKept.run_getObj_map hb,hc,MapKept.run_findKey hk hf,Result.andThen,jkr,jfK,hkf]
theorem jbG {w:World} {o:Obj} {i:Nat} (h:i=w.heap.size):(w.alloc o).heap[i]? =some o:=by
 subst h;exact jhz w o
theorem jdZ {w:World} {o:Obj} {i:Nat} (h:i≠w.heap.size):(w.alloc o).heap[i]? =w.heap[i]? :=by
 show (w.heap.push o)[i]? =_
 rw [Array.getElem?_push,if_neg h]
theorem jdt (w:World) (i:Nat):w.drew.heap[i]? =w.heap[i]? :=rfl
theorem jgj {W:World} {b:Nat} {l:List UInt8} {V:Value} {g:Bool} (hb:W.heap[b]? =some (.map jeT 4)) (hV:jfK l=V) (hg:(jaM l).isSome=g):
  (Instr.lookup 137 (.map (some b)) (bs l) true).run Tryz.prog W= .ok (.tuple #[.agg #[V], .bool g]) W:=by
 rw [jhc W b hb,jkr,hV,hg];rfl
theorem jmq {W:World} {b:Nat} {l:List UInt8} {V:Value} (hb:W.heap[b]? =some (.map jeT 4)) (hV:jfK l=V):
  (Instr.lookup 137 (.map (some b)) (bs l) false).run Tryz.prog W= .ok (.agg #[V]) W:=by
 rw [jhc W b hb,jkr,hV];rfl
noncomputable def jeB (kind step:List UInt8):Int:=if (jaM kind).isSome=false then 20 else if chk step≠0 then chk step else if numQ step≤0 then 3 else 0
section
variable {w:World} {kind step:List UInt8}
abbrev rv (kind step:List UInt8):Value:= .agg #[bs kind,bs step]
theorem jlH {l:List UInt8} (h:(jaM l).isSome=false):jfK l= .nilFunc:=by
 unfold jfK
 cases hk:jaM l with
 | none=>rfl
 | some g=>rw [hk] at h;cases h
theorem jd8 {l:List UInt8} (h:(jaM l).isSome=true):∃g,jaM l=some g∧jfK l= .func (.func g) #[] #[]:=by
 unfold jfK
 cases hk:jaM l with
 | none=>rw [hk] at h;cases h
 | some g=>exact ⟨g,rfl,rfl⟩
theorem jmG (hk:(jaM kind).isSome=false):Calls Tryz.prog 54 #[rv kind step] w fun e w'=>e= .returned (.int .i64 20)∧Below w.heap.size w w':=by
 have HV:=qh (jlH hk)
 have HG:=qh hk
 clear hk
 go_enter Tryz.func54,Tryz.ntmps54
 go_upto_region 1 with (fail)
 go_cut [4] (fun u wx=>u= .bool false∧Below w.heap.size w wx∧w.heap.size < wx.heap.size∧wx.cell? ⟨w.heap.size,0,none⟩=some (bs kind)∧wx.cell? ⟨w.heap.size,1,none⟩=some (bs step))
 case first=>
  go_region_with (first|(go_at_call 98;(with_reducible refine (jcb).mono ?_);rintro e1 w1 ⟨rfl,rfl⟩)|(rw [jgj (by repeat (first|exact jbG (by simp)|rw [jdZ (by simp)]|rw [jdt])) HV.out HG.out];go_simp))
  all_goals (go_wp2_with fail;go_meet;exact ⟨rfl,bi,by simp;omega,by simp [go_sem],by simp [go_sem]⟩)
 case rest=>
  obtain ⟨rfl,hb0,hz0,hc0,hc1⟩:=hcut
  have _:=bm hb0
  go_wp2
  go_ret
  exact ⟨rfl,bi⟩
theorem jnV {k:Int} {g:Nat} (hE:Env w) (hl:step.length < 4294967281) (hg:(jaM kind).isSome=true) (hk:chk step=k) (h0:k≠0):Calls Tryz.prog 54 #[rv kind step] w fun e w'=>e= .returned (.int .i64 k)∧Below w.heap.size w w':=by
 obtain ⟨g,hg1,hg2⟩:=jd8 hg
 have HV:=qh hg2
 have HG:=qh hg
 have HE:=qh hE
 have HL:=qh hl
 have HK:=qh hk
 have q1:(k != 0)=true:=by rw [bne_iff_ne];exact h0
 clear hE hl hk h0 hg hg1 hg2
 go_enter Tryz.func54,Tryz.ntmps54
 go_upto_region 1 with (fail)
 go_cut [4] (fun u wx=>u= .bool true∧Below w.heap.size w wx∧w.heap.size < wx.heap.size∧wx.cell? ⟨w.heap.size,0,none⟩=some (bs kind)∧wx.cell? ⟨w.heap.size,1,none⟩=some (bs step))
 case first=>
  go_region_with (first|(go_at_call 98;(with_reducible refine (jcb).mono ?_);rintro e1 w1 ⟨rfl,rfl⟩)|(rw [jgj (by repeat (first|exact jbG (by simp)|rw [jdZ (by simp)]|rw [jdt])) HV.out HG.out];go_simp))
  all_goals (go_wp2_with fail;go_meet;exact ⟨rfl,bi,by simp;omega,by simp [go_sem],by simp [go_sem]⟩)
 case rest=>
  obtain ⟨rfl,hb0,hz0,hc0,hc1⟩:=hcut
  have _:=bm hb0
  go_wp2_with (go_at_call 53;(with_reducible refine mo0 (jaI HK.out (HE.out.below bi) HL.out) fun w1 hb1 hc1 hf1 _=> ?_))
  go_ret
  exact ⟨rfl,bi⟩
theorem jmj {x:Rat} {k:Int} (hE:Env w) (hl:step.length < 4294967281) (hg:(jaM kind).isSome=true) (hx:IsNum step x) (hk:sgn x.num=k) (h0:k≤0):Calls Tryz.prog 54 #[rv kind step] w fun e w'=>e= .returned (.int .i64 3)∧Below w.heap.size w w':=by
 have q1:decide (k≤0)=true:=by simp;exact h0
 obtain ⟨g,hg1,hg2⟩:=jd8 hg
 have HV:=qh hg2
 have HG:=qh hg
 have HE:=qh hE
 have HL:=qh hl
 have HK:=qh (jaK.2 ⟨x,hx⟩)
 have HX:=qh hx
 have HS:=qh hk
 clear hE hl hk hg hg1 hg2 hx h0
 go_enter Tryz.func54,Tryz.ntmps54
 go_upto_region 1 with (fail)
 go_cut [4] (fun u wx=>u= .bool true∧Below w.heap.size w wx∧w.heap.size < wx.heap.size∧wx.cell? ⟨w.heap.size,0,none⟩=some (bs kind)∧wx.cell? ⟨w.heap.size,1,none⟩=some (bs step))
 case first=>
  go_region_with (first|(go_at_call 98;(with_reducible refine (jcb).mono ?_);rintro e1 w1 ⟨rfl,rfl⟩)|(rw [jgj (by repeat (first|exact jbG (by simp)|rw [jdZ (by simp)]|rw [jdt])) HV.out HG.out];go_simp))
  all_goals (go_wp2_with fail;go_meet;exact ⟨rfl,bi,by simp;omega,by simp [go_sem],by simp [go_sem]⟩)
 case rest=>
  obtain ⟨rfl,hb0,hz0,hc0,hc1⟩:=hcut
  have _:=bm hb0
  go_wp2_with (first
   | (go_at_call 53;(with_reducible refine mo0 (jaI HK.out (HE.out.below bi) HL.out) fun w1 hb1 hc1 hf1 _=> ?_))
   | (go_at_call 56;(with_reducible refine mf0 (jat HX.out (HE.out.below bi)) fun w2 s2 A2 n2 c2 t2 B2 m2 d2 hr2 hq2 hb2 hc2 hf2 _=> ?_))
   | (go_at_call 99;(with_reducible refine mo0 (jb3 HS.out ⟨hr2,hq2⟩) fun w3 hb3 hc3 hf3 _=> ?_)))
  go_ret
  exact ⟨rfl,bi⟩
theorem jpr {x:Rat} {k:Int} (hE:Env w) (hl:step.length < 4294967281) (hg:(jaM kind).isSome=true) (hx:IsNum step x) (hk:sgn x.num=k) (h0:0 < k):Calls Tryz.prog 54 #[rv kind step] w fun e w'=>e= .returned (.int .i64 0)∧Below w.heap.size w w':=by
 have q1:decide (k≤0)=false:=by simp;exact h0
 obtain ⟨g,hg1,hg2⟩:=jd8 hg
 have HV:=qh hg2
 have HG:=qh hg
 have HE:=qh hE
 have HL:=qh hl
 have HK:=qh (jaK.2 ⟨x,hx⟩)
 have HX:=qh hx
 have HS:=qh hk
 clear hE hl hk hg hg1 hg2 hx h0
 go_enter Tryz.func54,Tryz.ntmps54
 go_upto_region 1 with (fail)
 go_cut [4] (fun u wx=>u= .bool true∧Below w.heap.size w wx∧w.heap.size < wx.heap.size∧wx.cell? ⟨w.heap.size,0,none⟩=some (bs kind)∧wx.cell? ⟨w.heap.size,1,none⟩=some (bs step))
 case first=>
  go_region_with (first|(go_at_call 98;(with_reducible refine (jcb).mono ?_);rintro e1 w1 ⟨rfl,rfl⟩)|(rw [jgj (by repeat (first|exact jbG (by simp)|rw [jdZ (by simp)]|rw [jdt])) HV.out HG.out];go_simp))
  all_goals (go_wp2_with fail;go_meet;exact ⟨rfl,bi,by simp;omega,by simp [go_sem],by simp [go_sem]⟩)
 case rest=>
  obtain ⟨rfl,hb0,hz0,hc0,hc1⟩:=hcut
  have _:=bm hb0
  go_wp2_with (first
   | (go_at_call 53;(with_reducible refine mo0 (jaI HK.out (HE.out.below bi) HL.out) fun w1 hb1 hc1 hf1 _=> ?_))
   | (go_at_call 56;(with_reducible refine mf0 (jat HX.out (HE.out.below bi)) fun w2 s2 A2 n2 c2 t2 B2 m2 d2 hr2 hq2 hb2 hc2 hf2 _=> ?_))
   | (go_at_call 99;(with_reducible refine mo0 (jb3 HS.out ⟨hr2,hq2⟩) fun w3 hb3 hc3 hf3 _=> ?_)))
  go_ret
  exact ⟨rfl,bi⟩
theorem jlh {x:Rat}:0 < sgn x.num↔0 < x:=by
 have h:0 < x↔0 < x.num:=by rw [Rat.lt_iff];simp
 rw [h];unfold sgn;split
 ·omega
 ·split <;> omega
theorem jok (hE:Env w) (hl:step.length < 4294967281):Calls Tryz.prog 54 #[rv kind step] w fun e w'=>e= .returned (.int .i64 (jeB kind step))∧Below w.heap.size w w':=by
 unfold jeB
 cases hk:(jaM kind).isSome with
 | false=>exact jmG hk
 | true=>
   rw [if_neg (by decide)]
   by_cases h:chk step=0
   ·rw [if_neg (by simpa using h)]
    have hx:=jbL h
    generalize numQ step=x at hx
    by_cases h0:x≤0
    ·rw [if_pos h0]
     exact jmj hE hl hk hx rfl (Int.not_lt.1 fun h1=>Rat.not_le.2 (jlh.1 h1) h0)
    ·rw [if_neg h0]
     exact jpr hE hl hk hx rfl (jlh.2 (Rat.not_le.1 h0))
   ·rw [if_pos h];exact jnV (g:=0) hE hl hk rfl h
end

theorem ja6 {w w':World} {b o:Nat} {v:Value} (hb:Below w.heap.size w w') (h:w.cell? ⟨b,o,none⟩=some v):w'.cell? ⟨b,o,none⟩=some v:=ja4 hb h
theorem jaq {w w':World} {b:Nat} (hb:Below w.heap.size w w') (hz:b < w.heap.size) (h:∀o,w.frozen? ⟨b,o,none⟩=false) (o:Nat):w'.frozen? ⟨b,o,none⟩=false:=by rw [(jf5 hb).2 b o hz];exact h o
theorem jiz {a b c:World} (h:Below a.heap.size a b) (k:Below b.heap.size b c):Below a.heap.size a c:=ja1 h k
theorem jbx (n:Nat):n < n+1+1:=by omega
def upK (l:List UInt8) (h:Int) (o:Bool):Bool:=
 if l=jiB then false else if l=kUp then true else if l=jcZ then decide (h≥0) else decide (h > 0) || (decide (h=0) && o)
section
variable {w:World} {h:Int} {o:Bool}
theorem jq6:Calls Tryz.prog 147 #[.int .i64 h, .bool o] w fun e w'=>e= .returned (.bool false)∧Below w.heap.size w w':=by
 go_enter Tryz.func147,Tryz.ntmps147
 go_wp2
 go_ret
 exact ⟨rfl,bi⟩
theorem jrW:Calls Tryz.prog 148 #[.int .i64 h, .bool o] w fun e w'=>e= .returned (.bool true)∧Below w.heap.size w w':=by
 go_enter Tryz.func148,Tryz.ntmps148
 go_wp2
 go_ret
 exact ⟨rfl,bi⟩
theorem jpD:Calls Tryz.prog 149 #[.int .i64 h, .bool o] w fun e w'=>e= .returned (.bool (decide (h≥0)))∧Below w.heap.size w w':=by
 go_enter Tryz.func149,Tryz.ntmps149
 go_wp2
 go_ret
 exact ⟨rfl,bi⟩
theorem jpW:Calls Tryz.prog 150 #[.int .i64 h, .bool o] w fun e w'=>e= .returned (.bool (decide (h > 0) || (decide (h=0) && o)))∧Below w.heap.size w w':=by
 by_cases h1:h > 0
 ·have q1:decide (h > 0)=true:=by simpa using h1
  rw [q1]
  clear h1
  go_enter Tryz.func150,Tryz.ntmps150
  go_wp2
  go_ret
  exact ⟨rfl,bi⟩
 ·have q1:decide (h > 0)=false:=by simpa using h1
  rw [q1]
  by_cases h2:h=0
  ·subst h2
   clear h1 q1
   go_enter Tryz.func150,Tryz.ntmps150
   go_wp2
   go_ret
   exact ⟨by simp,bi⟩
  ·have q2:(h==0)=false:=by rw [beq_eq_false_iff_ne];exact h2
   have e:(false || (decide (h=0) && o))=false:=by simp [h2]
   rw [e]
   clear h1 e
   go_enter Tryz.func150,Tryz.ntmps150
   go_wp2
   go_ret
   exact ⟨rfl,bi⟩
theorem jpc {l:List UInt8} {g:Nat} {b:Bool} (hk:jaM l=some g) (hb:upK l h o=b):Calls Tryz.prog g #[.int .i64 h, .bool o] w fun e w'=>e= .returned (.bool b)∧Below w.heap.size w w':=by
 subst hb
 unfold jaM at hk
 unfold upK
 by_cases h1:l=jiB
 ·rw [if_pos h1] at hk ⊢;cases hk;exact jq6
 ·rw [if_neg h1] at hk ⊢
  by_cases h2:l=kUp
  ·rw [if_pos h2] at hk ⊢;cases hk;exact jrW
  ·rw [if_neg h2] at hk ⊢
   by_cases h3:l=jcZ
   ·rw [if_pos h3] at hk ⊢;cases hk;exact jpD
   ·rw [if_neg h3] at hk ⊢
    by_cases h4:l=jbW
    ·rw [if_pos h4] at hk;cases hk;exact jpW
    ·rw [if_neg h4] at hk;cases hk
end
theorem jft {l:List UInt8} {g:Nat} (hk:jaM l=some g) (args:Array Value) (w:World):(callFunc g args).run Tryz.prog w= .ok (.enter g args) w:=by
 unfold jaM at hk
 by_cases h1:l=jiB
 ·rw [if_pos h1] at hk;cases hk;kernel_rfl
 ·rw [if_neg h1] at hk
  by_cases h2:l=kUp
  ·rw [if_pos h2] at hk;cases hk;kernel_rfl
  ·rw [if_neg h2] at hk
   by_cases h3:l=jcZ
   ·rw [if_pos h3] at hk;cases hk;kernel_rfl
   ·rw [if_neg h3] at hk
    by_cases h4:l=jbW
    ·rw [if_pos h4] at hk;cases hk;kernel_rfl
    ·rw [if_neg h4] at hk;cases hk
@[go_sem] theorem jqz (v : Value) (w : World) : (Instr.field 135 (.agg #[v]) 0).run Tryz.prog w = .ok v w := by kernel_rfl
def rnd (l:List UInt8) (x s:Rat):Rat:=
 if x / s - ((x / s).floor:Rat)=0 then x
 else (((x / s).floor+(if upK l (Rq.cmpQ (x / s - ((x / s).floor:Rat)) (1/2)) (decide ((x / s).floor % 2≠0)) then 1 else 0):Int):Rat)*s
theorem jeN (y:Rat):y.floor.natAbs≤y.num.natAbs:=by
 rw [Rat.floor_def]
 have hd:=y.den_pos
 have h:=Int.natAbs_ediv_le_natAbs y.num (y.den:Int)
 exact h
theorem Sz.floor {p:Nat} {y:Rat} (h:Sz p y):Sz p (y.floor:Rat):=
 Sz.int (Nat.le_trans (jeN y) h.num)
theorem Sz.floor1 {p:Nat} {y:Rat} (h:Sz p y):Sz (p+1) ((y.floor+1:Int):Rat):=by
 apply Sz.int
 have h1:=jeN y
 have h2:=h.num
 have h3:=ja8
 have h4:2≤B64:=by rw [ja7];decide
 have h5:1≤B64^p:=Nat.one_le_pow _ _ ja8
 have h6:B64^(p+1)=B64^p*B64:=Nat.pow_succ ..
 have h7:B64^p*2≤B64^p*B64:=Nat.mul_le_mul_left _ h4
 rw [h6]
 generalize B64^p*B64=K at h7
 omega
end Go.Proofs.YtmaldbpmnneaaaaGreatDoor
