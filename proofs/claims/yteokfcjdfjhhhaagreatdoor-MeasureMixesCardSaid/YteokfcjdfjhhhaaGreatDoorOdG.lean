/- Parts. -/
import Derived.Test.YteokfcjdfjhhhaaGreatDoorObG
import Derived.Test.YteokfcjdfjhhhaaGreatDoorOaG
set_option linter.all false
set_option maxRecDepth 100000
set_option maxHeartbeats 8000000
namespace Go.Proofs.YteokfcjdfjhhhaaGreatDoor
open Go Go.RowKit

noncomputable def jb1 (m:Int) (ps:List (List UInt8×List UInt8)):List (List UInt8×Rat):=ps.map fun s=>(s.1,numQ s.2*((m:Int):Rat))
noncomputable def jal (ls:List Lay):List (List UInt8×Rat):=ls.flatMap fun x=>jb1 x.mass x.shares
theorem jdX {α:Type} {l:List α} {i:Nat} {d r:α} (h:i < l.length) (hr:l.getD i d=r):l.take (i+1)=l.take i++[r]:=by
 rw [List.take_add_one,List.getElem?_eq_getElem h];rw [List.getD_eq_getElem?_getD,List.getElem?_eq_getElem h] at hr;simp at hr;simp [hr]
theorem jfF {ls:List Lay} {i:Nat} {x:Lay} (h:i < ls.length) (hx:ls.getD i jaA=x):jal (ls.take i)++jb1 x.mass x.shares=jal (ls.take (i+1)):=by
 rw [jdX h hx];simp [jal]
theorem jix {ps:List (List UInt8×List UInt8)} {m:Int} {k:Nat} {p:List UInt8×List UInt8} (h:k < ps.length) (hp:ps.getD k ([],[])=p):jb1 m (ps.take k)++[(p.1,numQ p.2*((m:Int):Rat))]=jb1 m (ps.take (k+1)):=by
 rw [jdX h hp];simp [jb1]
theorem jdR (m:Int) (ps:List (List UInt8×List UInt8)):(jb1 m ps).length=ps.length:=by simp [jb1]
theorem jde:∀{ls:List Lay},(∀x∈ls,x.shares.length≤64)→(jal ls).length≤64*ls.length
 | [],_=>by simp [jal]
 | x::r,h=>by
   have h1:=jde (ls:=r) (fun y hy=>h y (List.mem_cons_of_mem _ hy));have h2:=h x (List.mem_cons_self ..);rw [show jal (x::r)=jb1 x.mass x.shares++jal r from by simp [jal],List.length_append,jdR,List.length_cons];omega
theorem jlm (q:Nat):Sz q 0:=by
 have:Sz 0 ((0:Int):Rat):=Sz.int (by simp);exact Sz.mono (by simpa using this) (Nat.zero_le q)
theorem jpr {q:Nat} (x:List UInt8):∀{cs:List (List UInt8×Rat)},(∀c∈cs,Sz q c.2)→Sz (cs.length*(q+1)+1) (tot cs x)
 | [],_=>by rw [tot];exact jlm _
 | p::r,h=>by
   rw [tot];have h1:=jpr x (cs:=r) (fun c hc=>h c (List.mem_cons_of_mem _ hc))
   have h2:Sz q (if p.1=x then p.2 else 0):=by
    split
    ·exact h p (List.mem_cons_self ..)
    ·exact jlm _
   exact (h2.add h1).mono (by rw [List.length_cons,Nat.add_mul];omega)
theorem jjd:∀{l:List (List UInt8×List UInt8)} {s:Rat} {p:Option (List UInt8)},jgL s p l=0→∀x∈l,jaZ x.1=true∧chk x.2=0∧0 < numQ x.2
 | [],_,_,_=>fun x hx=>by simp at hx
 | y::r,s,p,h=>fun x hx=>by
   rw [jgL] at h;split at h
   ·omega
   ·rename_i h1
    split at h
    ·omega
    ·split at h
     ·omega
     ·rename_i h3
      split at h
      ·omega
      ·rename_i h4
       rcases List.mem_cons.1 hx with rfl|hx
       ·exact ⟨by simpa using h1,by simpa using h3,Rat.not_le.1 h4⟩
       ·exact jjd h x hx
theorem jav {l:List (List UInt8×List UInt8)} (h:jaw l=0):(0 < l.length∧l.length≤64)∧∀x∈l,jaZ x.1=true∧chk x.2=0∧0 < numQ x.2:=by
 unfold jaw at h;split at h
 ·omega
 ·split at h
  ·omega
  ·exact ⟨by omega,jjd h⟩
theorem jan {x:Lay} (h:jaj x=0):jaZ x.grain=true∧1≤x.mass∧x.mass≤999999999∧jaw x.shares=0:=by
 unfold jaj at h;split at h
 ·omega
 ·rename_i h1
  split at h
  ·omega
  ·rename_i h2
   exact ⟨by simpa using h1,by omega,by omega,h⟩
theorem jay {α:Type} {f:α→Int}:∀{l:List α},jab f l=0→∀x∈l,f x=0
 | [],_=>fun x hx=>by simp at hx
 | y::r,h=>fun x hx=>by
   by_cases h0:f y=0
   ·rw [jae h0] at h;rcases List.mem_cons.1 hx with rfl|hx
    ·exact h0
    ·exact jay h x hx
   ·rw [jaT h0] at h;exact absurd h h0
def jgq (g:List UInt8) (s:Int):List Lay→Int×Int
 | []=>if 999999999 < s then (0,4) else (s,0)
 | x::r=>if x.grain=g then jgq g (s+x.mass) r else (0,16)
theorem jkU {g:List UInt8}:∀{l:List Lay} {s m:Int},(∀x∈l,1≤x.mass)→jgq g s l=(m,0)→s+l.length≤m∧m≤999999999
 | [],s,m,_,h=>by
   unfold jgq at h;split at h
   ·simp at h
   ·simp at h;simp;omega
 | x::r,s,m,hx,h=>by
   unfold jgq at h;split at h
   ·have h1:=jkU (fun y hy=>hx y (List.mem_cons_of_mem _ hy)) h;have h2:=hx x (List.mem_cons_self ..);rw [List.length_cons];omega
   ·simp at h

section
variable {w:World} {A:Option Addr} {n c:Nat} {ls:List Lay}
theorem jkX {R:Int×Int} (hE:Env w) (hv:Lv w A n ls) (h0:0 < n) (hn:n≤64) (hi:∀x∈ls,LayIn x) (hk:jab jaj ls=0) (hR:jgq (ls.getD 0 jaA).grain 0 ls=R):
  Calls Tryz.prog 39 #[.slice A n c] w fun e w'=>e= .returned (.tuple #[.int .i64 R.1, .int .i64 R.2])∧Below w.heap.size w w':=by
 have q0:((n:Int)==0)=false:=by rw [beq_eq_false_iff_ne];omega
 have q1:decide ((64:Int) < (n:Int))=false:=by rw [decide_eq_false_iff_not];omega
 have HMS:Hid (∀i,i < n→1≤(ls.getD i jaA).mass∧(ls.getD i jaA).mass≤999999999):=qh (fun i hi=>by
  have hil:i < ls.length:=by rw [hv.len];exact hi
  have:=jan (jay hk (ls.getD i jaA) (by rw [List.getD_eq_getElem?_getD,List.getElem?_eq_getElem hil];exact List.getElem_mem hil))
  exact ⟨this.2.1,this.2.2.1⟩)
 have HE:=qh hE;have HV:=qh hv;have HN:=qh hn;have HI:=qh hi;have HK:=qh hk;have H0:=qh h0;obtain ⟨g,hg⟩:∃g,(ls.getD 0 jaA).grain=g:=⟨_,rfl⟩;rw [hg] at hR;have HG:=qh hg;have HR:=qh hR;clear hE hv h0 hn hi hk hg hR;go_enter Tryz.func39,Tryz.ntmps39;go_wp2_with (go_at_call 97;(with_reducible refine mo0 (jez HK.out (HE.out.below bi) (HV.out.below bi) (by have:=HN.out;omega) HI.out) fun w1 hb1 hc1 hf1 _=> ?_))
 go_loopw [5,21] (fun v u wr=>∃(i:Nat) (s:Int),v= .int .i64 s∧u= .int .i64 (i:Int)∧Below w.heap.size w wr∧i≤n∧0≤s∧s≤i*999999999∧jgq g s (ls.drop i)=R) (fun _ u _=>n - (intOf u).toNat)
 case atStart=>exact ⟨0,0,rfl,rfl,bi,by omega,by omega,by omega,HR.out⟩
 case round=>
  obtain ⟨i,s,rfl,rfl,hb,hin,hs0,hs1,hc⟩:=hrel;have _:=bm hb;have hnn:=HN.out;by_cases hi:i < n
  ·have p0:decide ((i:Int) < (n:Int))=true:=by simp;exact hi
   obtain ⟨hm0,hm1⟩:=HMS.out i hi;obtain ⟨b,o,rfl,hbl,hat⟩:=(HV.out.below hb).at_ H0.out;obtain ⟨B,d,k0,k1,k2,_⟩:=(hat i hi).at_;obtain ⟨B',d',j0,j1,j2,_⟩:=(hat 0 H0.out).at_;rw [HG.out] at j0;have hil:i < ls.length:=by rw [HV.out.len];exact hi
   rw [jaH (d:=jaA) hil,jgq] at hc;obtain ⟨⟨x1,x2,x3⟩,hx⟩:∃x,ls.getD i jaA=x:=⟨_,rfl⟩;rw [hx] at k0 k1 k2 hm0 hm1 hc;dsimp only at k0 k1 k2 hm0 hm1 hc;have HI2:=qh hi;obtain ⟨l3,hl3⟩:∃l,x3.length=l:=⟨_,rfl⟩;rw [hl3] at k2;clear hat hx hil hl3;rw [Nat.zero_mul,Nat.add_zero] at j0;by_cases hg:x1=g
   ·rw [if_pos hg] at hc;have HC:=qh hc;subst hg;clear hc hi;go_upto_region 12 with (fail)
    go_quiet (fail)
    go_wp2;exact ⟨⟨i+1,s+x2,by simp,by simp,bi,HI2.out,by omega,by push_cast;omega,HC.out⟩,by have:=HI2.out;simp [intOf];omega⟩
   ·rw [if_neg hg] at hc;subst hc;have hg':¬g=x1:=fun h=>hg h.symm
    have q5:(x1==g)=false:=by rw [beq_eq_false_iff_ne];exact hg
    clear hi HR;go_upto_region 12 with (fail)
    go_quiet (fail)
    go_wp2;go_ret2;exact ⟨rfl,bi⟩
  ·have p0:decide (i < n)=false:=by simp;omega
   rw [List.drop_eq_nil_of_le (by rw [HV.out.len];omega),jgq] at hc;by_cases h4:999999999 < s
   ·rw [if_pos h4] at hc;subst hc;have q2:decide (999999999 < s)=true:=by simpa using h4
    clear h4 hi HR;go_wp2;go_ret2;exact ⟨rfl,bi⟩
   ·rw [if_neg h4] at hc;subst hc;have q2:decide (999999999 < s)=false:=by simpa using h4
    clear h4 hi HR;go_wp2;go_ret2;exact ⟨rfl,bi⟩
end
end Go.Proofs.YteokfcjdfjhhhaaGreatDoor
