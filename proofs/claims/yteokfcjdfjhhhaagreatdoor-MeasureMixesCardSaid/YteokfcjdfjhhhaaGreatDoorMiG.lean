/- Parts. -/
import Derived.Test.YteokfcjdfjhhhaaGreatDoorMpG
import Derived.MapKept
import Derived.Laws.EntriesVeiled
import Derived.Deep.CutRange
set_option linter.all false
set_option maxRecDepth 100000
set_option maxHeartbeats 8000000
namespace Go.Proofs.YteokfcjdfjhhhaaGreatDoor
open Go Go.RowKit

abbrev jis:List UInt8:=[100,111,119,110]
abbrev kUp:List UInt8:=[117,112]
abbrev jdb:List UInt8:=[104,97,108,102,45,117,112]
abbrev jc2:List UInt8:=[104,97,108,102,45,101,118,101,110]
abbrev jgu (g:Nat):Value:= .agg #[.func (.func g) #[] #[]]
def jfb:Array MapEntry:= #[⟨.string ⟨#[100,111,119,110]⟩,jgu 159,0⟩,⟨.string ⟨#[117,112]⟩,jgu 160,1⟩,⟨.string ⟨#[104,97,108,102,45,117,112]⟩,jgu 161,2⟩,⟨.string ⟨#[104,97,108,102,45,101,118,101,110]⟩,jgu 162,3⟩]
theorem jgT (w:World) (o:Obj):(w.alloc o).heap[w.heap.size]? =some o:=by
 show (w.heap.push o)[w.heap.size]? =_
 simp
theorem jmo (w:World) (o o':Obj):{ w.alloc o with heap:=(w.alloc o).heap.setIfInBounds w.heap.size o' }=w.alloc o':=by
 have e:(w.alloc o).heap.setIfInBounds w.heap.size o'=(w.alloc o').heap:=by
  show (w.heap.push o).setIfInBounds w.heap.size o'=w.heap.push o'
  apply Array.ext';simp [Array.setIfInBounds,Array.toList_push]
 rw [e];rfl
theorem jga (w:World) (es:Array MapEntry) (c:Nat) (s:ByteArray) (v:Value) (h:Instr.findNow .string (.string s) es.toList 0=some none):
  (Instr.mapUpdate 145 (.map (some w.heap.size)) (.string s) v).run Tryz.prog (w.alloc (.map es c))= .ok () (w.alloc (.map (es.push ⟨.string s,v,c⟩) (c+1))):=by
 have hb:=jgT w (.map es c);have hk:Tryz.prog.underlying 9=some .string:=Tryz.underlying9;have hc:(Instr.checkKey false 10000 9 (.string s)).run Tryz.prog (w.alloc (.map es c))= .ok () (w.alloc (.map es c)):=MapKept.run_checkKey (k:= .string s) hk (by simp [MapKept.IsKey]) false 9999;simp [Instr.mapUpdate,run_underlying Tryz.underlying145,MapKept.run_getObj_map hb,hc,MapKept.run_findKey hk h,MapKept.run_setObj_map _ hb,Result.andThen];exact jmo w _ _
section
variable {w:World}
theorem jcD:Calls Tryz.prog 113 #[] w fun e w'=>e= .returned (.map (some w.heap.size))∧w'=w.alloc (.map jfb 4):=by
 have hmm:= @run_makeMap Tryz.prog;have h1:=jga w #[] 0 ⟨#[100,111,119,110]⟩ (jgu 159) rfl;have h2:=jga w #[⟨.string ⟨#[100,111,119,110]⟩,jgu 159,0⟩] 1 ⟨#[117,112]⟩ (jgu 160) rfl;have h3:=jga w #[⟨.string ⟨#[100,111,119,110]⟩,jgu 159,0⟩,⟨.string ⟨#[117,112]⟩,jgu 160,1⟩] 2 ⟨#[104,97,108,102,45,117,112]⟩ (jgu 161) rfl;have h4:=jga w #[⟨.string ⟨#[100,111,119,110]⟩,jgu 159,0⟩,⟨.string ⟨#[117,112]⟩,jgu 160,1⟩,⟨.string ⟨#[104,97,108,102,45,117,112]⟩,jgu 161,2⟩] 3 ⟨#[104,97,108,102,45,101,118,101,110]⟩ (jgu 162) rfl;simp only [List.push_toArray,List.cons_append,List.nil_append] at h1 h2 h3 h4;go_enter Tryz.func113,Tryz.ntmps113;go_wp2;go_ret;exact ⟨rfl,rfl⟩
end
def jaS (l:List UInt8):Option Nat:=if l=jis then some 159 else if l=kUp then some 160 else if l=jdb then some 161 else if l=jc2 then some 162 else none
theorem jgw (l m:List UInt8):Instr.sameNow .string (bs l) (bs m)=some (l==m):=by
 show some (_==_)=some (l==m)
 rw [jhJ]
theorem jmz (l:List UInt8):∃i,Instr.findNow .string (bs l) jfb.toList 0=some ((jaS l).map fun g=>(i,jgu g)):=by
 have e:jfb.toList=[⟨bs jis,jgu 159,0⟩,⟨bs kUp,jgu 160,1⟩,⟨bs jdb,jgu 161,2⟩,⟨bs jc2,jgu 162,3⟩]:=rfl;rw [e];simp only [Instr.findNow,jgw];unfold jaS;by_cases h1:l=jis
 ·exact ⟨0,by rw [if_pos h1];simp [h1]⟩
 ·by_cases h2:l=kUp
  ·exact ⟨1,by rw [if_neg h1,if_pos h2];simp [h2]⟩
  ·by_cases h3:l=jdb
   ·exact ⟨2,by rw [if_neg h1,if_neg h2,if_pos h3];simp [h3]⟩
   ·by_cases h4:l=jc2
    ·exact ⟨3,by rw [if_neg h1,if_neg h2,if_neg h3,if_pos h4];simp [h4]⟩
    ·have e1:(l==jis)=false:=by rw [beq_eq_false_iff_ne];exact h1
     have e2:(l==kUp)=false:=by rw [beq_eq_false_iff_ne];exact h2
     have e3:(l==jdb)=false:=by rw [beq_eq_false_iff_ne];exact h3
     have e4:(l==jc2)=false:=by rw [beq_eq_false_iff_ne];exact h4
     exact ⟨0,by rw [if_neg h1,if_neg h2,if_neg h3,if_neg h4,e1,e2,e3,e4];rfl⟩
theorem jmc (w:World):(zeroValue 143).run Tryz.prog w= .ok (.agg #[.nilFunc]) w:=by kernel_rfl


def jgd (l:List UInt8):Value:=match jaS l with|some g=> .func (.func g) #[] #[]|none=> .nilFunc
def jkd (l:List UInt8):Value:= .agg #[jgd l]
theorem jhV (W:World) (b:Nat) (hb:W.heap[b]? =some (.map jfb 4)) (l:List UInt8) (c:Bool):
  (Instr.lookup 145 (.map (some b)) (bs l) c).run Tryz.prog W= .ok (if c then .tuple #[jkd l, .bool (jaS l).isSome] else jkd l) W:=by
 have hk:Tryz.prog.underlying 9=some .string:=Tryz.underlying9;have hc:(Instr.checkKey jfb.isEmpty 10000 9 (bs l)).run Tryz.prog W= .ok () W:=MapKept.run_checkKey (k:=bs l) hk (by simp [MapKept.IsKey]) _ 9999;obtain ⟨i,hf⟩:=jmz l;have hz:=jmc W;cases hkf:jaS l with
 | none=>
   rw [hkf] at hf;simp [Instr.lookup,run_underlying Tryz.underlying145,MapKept.run_getObj_map hb,hc,MapKept.run_findKey hk hf,Result.andThen,hz,jkd,jgd,hkf]
 | some g=>
   rw [hkf] at hf;simp [Instr.lookup,run_underlying Tryz.underlying145,MapKept.run_getObj_map hb,hc,MapKept.run_findKey hk hf,Result.andThen,jkd,jgd,hkf]
theorem jbN {w:World} {o:Obj} {i:Nat} (h:i=w.heap.size):(w.alloc o).heap[i]? =some o:=by
 subst h;exact jgT w o
theorem jeb {w:World} {o:Obj} {i:Nat} (h:i≠w.heap.size):(w.alloc o).heap[i]? =w.heap[i]? :=by
 show (w.heap.push o)[i]? =_
 rw [Array.getElem?_push,if_neg h]
theorem jdo (w:World) (i:Nat):w.drew.heap[i]? =w.heap[i]? :=rfl
theorem jgz {W:World} {b:Nat} {l:List UInt8} {V:Value} {g:Bool} (hb:W.heap[b]? =some (.map jfb 4)) (hV:jgd l=V) (hg:(jaS l).isSome=g):
  (Instr.lookup 145 (.map (some b)) (bs l) true).run Tryz.prog W= .ok (.tuple #[.agg #[V], .bool g]) W:=by
 rw [jhV W b hb,jkd,hV,hg];rfl
theorem jlT {W:World} {b:Nat} {l:List UInt8} {V:Value} (hb:W.heap[b]? =some (.map jfb 4)) (hV:jgd l=V):
  (Instr.lookup 145 (.map (some b)) (bs l) false).run Tryz.prog W= .ok (.agg #[V]) W:=by
 rw [jhV W b hb,jkd,hV];rfl
noncomputable def jeX (kind step:List UInt8):Int:=if (jaS kind).isSome=false then 20 else if chk step≠0 then chk step else if numQ step≤0 then 3 else 0
section
variable {w:World} {kind step:List UInt8}
abbrev rv (kind step:List UInt8):Value:= .agg #[bs kind,bs step]
theorem jm5 {l:List UInt8} (h:(jaS l).isSome=false):jgd l= .nilFunc:=by
 unfold jgd;cases hk:jaS l with
 | none=>rfl
 | some g=>rw [hk] at h;cases h
theorem jdd {l:List UInt8} (h:(jaS l).isSome=true):∃g,jaS l=some g∧jgd l= .func (.func g) #[] #[]:=by
 unfold jgd;cases hk:jaS l with
 | none=>rw [hk] at h;cases h
 | some g=>exact ⟨g,rfl,rfl⟩
theorem jlQ (hk:(jaS kind).isSome=false):Calls Tryz.prog 63 #[rv kind step] w fun e w'=>e= .returned (.int .i64 20)∧Below w.heap.size w w':=by
 have HV:=qh (jm5 hk);have HG:=qh hk;clear hk;go_enter Tryz.func63,Tryz.ntmps63;go_upto_region 1 with (fail)
 go_cut [4] (fun u wx=>u= .bool false∧Below w.heap.size w wx∧w.heap.size < wx.heap.size∧wx.cell? ⟨w.heap.size,0,none⟩=some (bs kind)∧wx.cell? ⟨w.heap.size,1,none⟩=some (bs step))
 case first=>
  go_region_with (first|(go_at_call 113;(with_reducible refine (jcD).mono ?_);rintro e1 w1 ⟨rfl,rfl⟩)|(rw [jgz (by repeat (first|exact jbN (by simp)|rw [jeb (by simp)]|rw [jdo])) HV.out HG.out];go_simp))
  all_goals (go_wp2_with fail;go_meet;exact ⟨rfl,bi,by simp;omega,by simp [go_sem],by simp [go_sem]⟩)
 case rest=>
  obtain ⟨rfl,hb0,hz0,hc0,hc1⟩:=hcut;have _:=bm hb0;go_wp2;go_ret;exact ⟨rfl,bi⟩
theorem jnY {k:Int} {g:Nat} (hE:Env w) (hl:step.length < 4294967281) (hg:(jaS kind).isSome=true) (hk:chk step=k) (h0:k≠0):Calls Tryz.prog 63 #[rv kind step] w fun e w'=>e= .returned (.int .i64 k)∧Below w.heap.size w w':=by
 obtain ⟨g,hg1,hg2⟩:=jdd hg;have HV:=qh hg2;have HG:=qh hg;have HE:=qh hE;have HL:=qh hl;have HK:=qh hk;have q1:(k != 0)=true:=by rw [bne_iff_ne];exact h0
 clear hE hl hk h0 hg hg1 hg2;go_enter Tryz.func63,Tryz.ntmps63;go_upto_region 1 with (fail)
 go_cut [4] (fun u wx=>u= .bool true∧Below w.heap.size w wx∧w.heap.size < wx.heap.size∧wx.cell? ⟨w.heap.size,0,none⟩=some (bs kind)∧wx.cell? ⟨w.heap.size,1,none⟩=some (bs step))
 case first=>
  go_region_with (first|(go_at_call 113;(with_reducible refine (jcD).mono ?_);rintro e1 w1 ⟨rfl,rfl⟩)|(rw [jgz (by repeat (first|exact jbN (by simp)|rw [jeb (by simp)]|rw [jdo])) HV.out HG.out];go_simp))
  all_goals (go_wp2_with fail;go_meet;exact ⟨rfl,bi,by simp;omega,by simp [go_sem],by simp [go_sem]⟩)
 case rest=>
  obtain ⟨rfl,hb0,hz0,hc0,hc1⟩:=hcut;have _:=bm hb0;go_wp2_with (go_at_call 30;(with_reducible refine mo0 (jaP HK.out (HE.out.below bi) HL.out) fun w1 hb1 hc1 hf1 _=> ?_))
  go_ret;exact ⟨rfl,bi⟩
theorem jmm {x:Rat} {k:Int} (hE:Env w) (hl:step.length < 4294967281) (hg:(jaS kind).isSome=true) (hx:IsNum step x) (hk:sgn x.num=k) (h0:k≤0):Calls Tryz.prog 63 #[rv kind step] w fun e w'=>e= .returned (.int .i64 3)∧Below w.heap.size w w':=by
 have q1:decide (k≤0)=true:=by simp;exact h0
 obtain ⟨g,hg1,hg2⟩:=jdd hg;have HV:=qh hg2;have HG:=qh hg;have HE:=qh hE;have HL:=qh hl;have HK:=qh (jaQ.2 ⟨x,hx⟩);have HX:=qh hx;have HS:=qh hk;clear hE hl hk hg hg1 hg2 hx h0;go_enter Tryz.func63,Tryz.ntmps63;go_upto_region 1 with (fail)
 go_cut [4] (fun u wx=>u= .bool true∧Below w.heap.size w wx∧w.heap.size < wx.heap.size∧wx.cell? ⟨w.heap.size,0,none⟩=some (bs kind)∧wx.cell? ⟨w.heap.size,1,none⟩=some (bs step))
 case first=>
  go_region_with (first|(go_at_call 113;(with_reducible refine (jcD).mono ?_);rintro e1 w1 ⟨rfl,rfl⟩)|(rw [jgz (by repeat (first|exact jbN (by simp)|rw [jeb (by simp)]|rw [jdo])) HV.out HG.out];go_simp))
  all_goals (go_wp2_with fail;go_meet;exact ⟨rfl,bi,by simp;omega,by simp [go_sem],by simp [go_sem]⟩)
 case rest=>
  obtain ⟨rfl,hb0,hz0,hc0,hc1⟩:=hcut;have _:=bm hb0
  go_wp2_with (first
   | (go_at_call 30;(with_reducible refine mo0 (jaP HK.out (HE.out.below bi) HL.out) fun w1 hb1 hc1 hf1 _=> ?_))
   | (go_at_call 31;(with_reducible refine mf0 (jaz HX.out (HE.out.below bi)) fun w2 s2 A2 n2 c2 t2 B2 m2 d2 hr2 hq2 hb2 hc2 hf2 _=> ?_))
   | (go_at_call 32;(with_reducible refine mo0 (jb9 HS.out ⟨hr2,hq2⟩) fun w3 hb3 hc3 hf3 _=> ?_)))
  go_ret;exact ⟨rfl,bi⟩
theorem jqw {x:Rat} {k:Int} (hE:Env w) (hl:step.length < 4294967281) (hg:(jaS kind).isSome=true) (hx:IsNum step x) (hk:sgn x.num=k) (h0:0 < k):Calls Tryz.prog 63 #[rv kind step] w fun e w'=>e= .returned (.int .i64 0)∧Below w.heap.size w w':=by
 have q1:decide (k≤0)=false:=by simp;exact h0
 obtain ⟨g,hg1,hg2⟩:=jdd hg;have HV:=qh hg2;have HG:=qh hg;have HE:=qh hE;have HL:=qh hl;have HK:=qh (jaQ.2 ⟨x,hx⟩);have HX:=qh hx;have HS:=qh hk;clear hE hl hk hg hg1 hg2 hx h0;go_enter Tryz.func63,Tryz.ntmps63;go_upto_region 1 with (fail)
 go_cut [4] (fun u wx=>u= .bool true∧Below w.heap.size w wx∧w.heap.size < wx.heap.size∧wx.cell? ⟨w.heap.size,0,none⟩=some (bs kind)∧wx.cell? ⟨w.heap.size,1,none⟩=some (bs step))
 case first=>
  go_region_with (first|(go_at_call 113;(with_reducible refine (jcD).mono ?_);rintro e1 w1 ⟨rfl,rfl⟩)|(rw [jgz (by repeat (first|exact jbN (by simp)|rw [jeb (by simp)]|rw [jdo])) HV.out HG.out];go_simp))
  all_goals (go_wp2_with fail;go_meet;exact ⟨rfl,bi,by simp;omega,by simp [go_sem],by simp [go_sem]⟩)
 case rest=>
  obtain ⟨rfl,hb0,hz0,hc0,hc1⟩:=hcut;have _:=bm hb0
  go_wp2_with (first
   | (go_at_call 30;(with_reducible refine mo0 (jaP HK.out (HE.out.below bi) HL.out) fun w1 hb1 hc1 hf1 _=> ?_))
   | (go_at_call 31;(with_reducible refine mf0 (jaz HX.out (HE.out.below bi)) fun w2 s2 A2 n2 c2 t2 B2 m2 d2 hr2 hq2 hb2 hc2 hf2 _=> ?_))
   | (go_at_call 32;(with_reducible refine mo0 (jb9 HS.out ⟨hr2,hq2⟩) fun w3 hb3 hc3 hf3 _=> ?_)))
  go_ret;exact ⟨rfl,bi⟩
theorem jlo {x:Rat}:0 < sgn x.num↔0 < x:=by
 have h:0 < x↔0 < x.num:=by rw [Rat.lt_iff];simp
 rw [h];unfold sgn;split
 ·omega
 ·split <;> omega
theorem joT (hE:Env w) (hl:step.length < 4294967281):Calls Tryz.prog 63 #[rv kind step] w fun e w'=>e= .returned (.int .i64 (jeX kind step))∧Below w.heap.size w w':=by
 unfold jeX;cases hk:(jaS kind).isSome with
 | false=>exact jlQ hk
 | true=>
   rw [if_neg (by decide)];by_cases h:chk step=0
   ·rw [if_neg (by simpa using h)];have hx:=jbQ h;generalize numQ step=x at hx;by_cases h0:x≤0
    ·rw [if_pos h0];exact jmm hE hl hk hx rfl (Int.not_lt.1 fun h1=>Rat.not_le.2 (jlo.1 h1) h0)
    ·rw [if_neg h0];exact jqw hE hl hk hx rfl (jlo.2 (Rat.not_le.1 h0))
   ·rw [if_pos h];exact jnY (g:=0) hE hl hk rfl h
end

theorem ja6 {w w':World} {b o:Nat} {v:Value} (hb:Below w.heap.size w w') (h:w.cell? ⟨b,o,none⟩=some v):w'.cell? ⟨b,o,none⟩=some v:=ja5 hb h
theorem jaE {w w':World} {b:Nat} (hb:Below w.heap.size w w') (hz:b < w.heap.size) (h:∀o,w.frozen? ⟨b,o,none⟩=false) (o:Nat):w'.frozen? ⟨b,o,none⟩=false:=by rw [(jfp hb).2 b o hz];exact h o
theorem jiH {a b c:World} (h:Below a.heap.size a b) (k:Below b.heap.size b c):Below a.heap.size a c:=ja1 h k
theorem jcg (n:Nat):n < n+1+1:=by omega
def upK (l:List UInt8) (h:Int) (o:Bool):Bool:=
 if l=jis then false else if l=kUp then true else if l=jdb then decide (h≥0) else decide (h > 0) || (decide (h=0) && o)
section
variable {w:World} {h:Int} {o:Bool}
theorem jpC:Calls Tryz.prog 159 #[.int .i64 h, .bool o] w fun e w'=>e= .returned (.bool false)∧Below w.heap.size w w':=by
 go_enter Tryz.func159,Tryz.ntmps159;go_wp2;go_ret;exact ⟨rfl,bi⟩
theorem jsl:Calls Tryz.prog 160 #[.int .i64 h, .bool o] w fun e w'=>e= .returned (.bool true)∧Below w.heap.size w w':=by
 go_enter Tryz.func160,Tryz.ntmps160;go_wp2;go_ret;exact ⟨rfl,bi⟩
theorem jqg:Calls Tryz.prog 161 #[.int .i64 h, .bool o] w fun e w'=>e= .returned (.bool (decide (h≥0)))∧Below w.heap.size w w':=by
 go_enter Tryz.func161,Tryz.ntmps161;go_wp2;go_ret;exact ⟨rfl,bi⟩
theorem jpZ:Calls Tryz.prog 162 #[.int .i64 h, .bool o] w fun e w'=>e= .returned (.bool (decide (h > 0) || (decide (h=0) && o)))∧Below w.heap.size w w':=by
 by_cases h1:h > 0
 ·have q1:decide (h > 0)=true:=by simpa using h1
  rw [q1];clear h1;go_enter Tryz.func162,Tryz.ntmps162;go_wp2;go_ret;exact ⟨rfl,bi⟩
 ·have q1:decide (h > 0)=false:=by simpa using h1
  rw [q1];by_cases h2:h=0
  ·subst h2;clear h1 q1;go_enter Tryz.func162,Tryz.ntmps162;go_wp2;go_ret;exact ⟨by simp,bi⟩
  ·have q2:(h==0)=false:=by rw [beq_eq_false_iff_ne];exact h2
   have e:(false || (decide (h=0) && o))=false:=by simp [h2]
   rw [e];clear h1 e;go_enter Tryz.func162,Tryz.ntmps162;go_wp2;go_ret;exact ⟨rfl,bi⟩
theorem jpf {l:List UInt8} {g:Nat} {b:Bool} (hk:jaS l=some g) (hb:upK l h o=b):Calls Tryz.prog g #[.int .i64 h, .bool o] w fun e w'=>e= .returned (.bool b)∧Below w.heap.size w w':=by
 subst hb;unfold jaS at hk;unfold upK;by_cases h1:l=jis
 ·rw [if_pos h1] at hk ⊢;cases hk;exact jpC
 ·rw [if_neg h1] at hk ⊢;by_cases h2:l=kUp
  ·rw [if_pos h2] at hk ⊢;cases hk;exact jsl
  ·rw [if_neg h2] at hk ⊢;by_cases h3:l=jdb
   ·rw [if_pos h3] at hk ⊢;cases hk;exact jqg
   ·rw [if_neg h3] at hk ⊢;by_cases h4:l=jc2
    ·rw [if_pos h4] at hk;cases hk;exact jpZ
    ·rw [if_neg h4] at hk;cases hk
end
theorem jfw {l:List UInt8} {g:Nat} (hk:jaS l=some g) (args:Array Value) (w:World):(callFunc g args).run Tryz.prog w= .ok (.enter g args) w:=by
 unfold jaS at hk;by_cases h1:l=jis
 ·rw [if_pos h1] at hk;cases hk;kernel_rfl
 ·rw [if_neg h1] at hk;by_cases h2:l=kUp
  ·rw [if_pos h2] at hk;cases hk;kernel_rfl
  ·rw [if_neg h2] at hk;by_cases h3:l=jdb
   ·rw [if_pos h3] at hk;cases hk;kernel_rfl
   ·rw [if_neg h3] at hk;by_cases h4:l=jc2
    ·rw [if_pos h4] at hk;cases hk;kernel_rfl
    ·rw [if_neg h4] at hk;cases hk
@[go_sem] theorem jqX (v : Value) (w : World) : (Instr.field 143 (.agg #[v]) 0).run Tryz.prog w = .ok v w := by kernel_rfl
def rnd (l:List UInt8) (x s:Rat):Rat:=
 if x / s - ((x / s).floor:Rat)=0 then x
 else (((x / s).floor+(if upK l (Rq.cmpQ (x / s - ((x / s).floor:Rat)) (1/2)) (decide ((x / s).floor % 2≠0)) then 1 else 0):Int):Rat)*s
theorem jeE (y:Rat):y.floor.natAbs≤y.num.natAbs:=by
 rw [Rat.floor_def];have hd:=y.den_pos;have h:=Int.natAbs_ediv_le_natAbs y.num (y.den:Int);exact h
theorem Sz.floor {p:Nat} {y:Rat} (h:Sz p y):Sz p (y.floor:Rat):=
 Sz.int (Nat.le_trans (jeE y) h.num)
theorem Sz.floor1 {p:Nat} {y:Rat} (h:Sz p y):Sz (p+1) ((y.floor+1:Int):Rat):=by
 apply Sz.int;have h1:=jeE y;have h2:=h.num;have h3:=ja9;have h4:2≤B64:=by rw [ja7];decide
 have h5:1≤B64^p:=Nat.one_le_pow _ _ ja9;have h6:B64^(p+1)=B64^p*B64:=Nat.pow_succ ..;have h7:B64^p*2≤B64^p*B64:=Nat.mul_le_mul_left _ h4;rw [h6];generalize B64^p*B64=K at h7;omega
end Go.Proofs.YteokfcjdfjhhhaaGreatDoor
