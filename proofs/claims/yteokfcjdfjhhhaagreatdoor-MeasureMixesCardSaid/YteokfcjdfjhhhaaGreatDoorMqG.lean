/- Parts. -/
import Derived.Test.YteokfcjdfjhhhaaGreatDoorMo
import Derived.Maps.AppendAt
import Derived.Sort.KeysCollected
set_option linter.all false
set_option maxRecDepth 100000
set_option maxHeartbeats 8000000
namespace Go.Proofs.YteokfcjdfjhhhaaGreatDoor
open Go Go.RowKit

noncomputable def jbB (p:List UInt8×List UInt8):Int:=if jab chk [p.1,p.2]≠0 then jab chk [p.1,p.2] else if numQ p.2 < numQ p.1 then 11 else 0
theorem jlp {a b:List UInt8} (h:jab chk [a,b]=0):chk a=0∧chk b=0:=by
 unfold jab at h;by_cases h1:chk a=0
 ·rw [if_pos h1] at h;unfold jab at h;by_cases h2:chk b=0
  ·exact ⟨h1,h2⟩
  ·rw [if_neg h2] at h;exact absurd h h2
 ·rw [if_neg h1] at h;exact absurd h h1
theorem jry {x y:Rat}:decide (Rq.cmpQ x y > 0)=decide (y < x):=by
 rw [decide_eq_decide];exact Rq.cmp_pos
theorem Sv.twoAt {w:World} {t:TypeId} {k l:List UInt8} {b:Nat} (hb:b=w.heap.size):Sv (w.alloc (.cells #[bs k,bs l] t)) (some ⟨b,0,none⟩) 2 [k,l]:=by
 subst hb;exact Sv.two w t k l
section
variable {w:World} {a b:List UInt8} {x y:Rat}
theorem jdm {w:World} {a b:List UInt8} {A:Option Addr} {n c:Nat} {k:Int} (hk:jab chk [a,b]=k) (hE:Env w) (hs:Sv w A n [a,b]) (hn:n≤100000) (hl:a.length < 4294967281) (hl':b.length < 4294967281):
  Calls Tryz.prog 78 #[.func (.func 30) #[] #[], .slice A n c] w fun e w'=>e= .returned (.int .i64 k)∧Below w.heap.size w w':=by
 subst hk
 exact jfX (c:=c) (f:=chk) hs hn (fun l hm V hV=>by
  have hl2:l.length < 4294967281:=by
   rcases List.mem_cons.1 hm with rfl|hm
   ·exact hl
   ·rcases List.mem_cons.1 hm with rfl|hm
    ·exact hl'
    ·cases hm
  exact jgV (hE.below hV) hl2)
theorem jlM {k:Int} (hE:Env w) (hl:a.length < 4294967281) (hl':b.length < 4294967281) (hk:jab chk [a,b]=k) (h0:k≠0):Calls Tryz.prog 66 #[sp a b] w fun e w'=>e= .returned (.int .i64 k)∧Below w.heap.size w w':=by
 have HE:=qh hE;have HL:=qh hl;have HL':=qh hl';have HK:=qh hk;have q1:(k != 0)=true:=by rw [bne_iff_ne];exact h0
 clear hE hl hl' hk h0;go_enter Tryz.func66,Tryz.ntmps66;go_wp2_with (go_at_call 78;(with_reducible refine mo0 (jdm HK.out (HE.out.below bi) (Sv.twoAt (by simp)) (by omega) HL.out HL'.out) fun w1 hb1 hc1 hf1 _=> ?_))
 go_ret;exact ⟨rfl,bi⟩
theorem jne {g:Bool} (hE:Env w) (hl:a.length < 4294967281) (hl':b.length < 4294967281) (ha:IsNum a x) (hb:IsNum b y) (hg:decide (Rq.cmpQ x y > 0)=g):Calls Tryz.prog 66 #[sp a b] w fun e w'=>e= .returned (.int .i64 (if g then 11 else 0))∧Below w.heap.size w w':=by
 have HE:=qh hE;have HL:=qh hl;have HL':=qh hl';have HK:Hid (jab chk [a,b]=0):=qh (by simp [jab,jaQ.2 ⟨x,ha⟩,jaQ.2 ⟨y,hb⟩]);have HA:=qh ha;have HB:=qh hb;have HSA:=qh ha.sz;have HSB:=qh hb.sz;obtain ⟨z,hz⟩:∃z,Rq.cmpQ x y=z:=⟨_,rfl⟩;have HZ:=qh hz;rw [hz] at hg;clear hE hl hl' ha hb hz;cases g
 all_goals
  go_enter Tryz.func66,Tryz.ntmps66
  go_wp2_with (first
   | (go_at_call 78;(with_reducible refine mo1 w (jdm HK.out (HE.out.below bi) (Sv.twoAt (by simp)) (by omega) HL.out HL'.out) (by go_size) fun w1 hb1 hc1 hf1 z1_0 _=> ?_))
   | (go_at_call 67;((with_reducible refine (jaU (HE.out.below bi) HA.out HB.out).mono ?_);rintro e2 w2 ⟨s2,A2,n2,c2,t2,B2,m2,d2,u2,C2,i2,k2,v2,D2,j2,l2,rfl,⟨hr2,hq2⟩,⟨hu2,hv2⟩,hb2⟩;have _:=bm hb2);obtain ⟨hc2,hf2,z2_0,_⟩:=bc1 w hb2 (by go_size))
   | (go_at_call 72;(with_reducible refine mo0 (jaV 600 600 HZ.out ⟨(by with_reducible repeat first|assumption|apply rZ|refine rP ?_ rfl (by simp [go_sem,hc2])),(by with_reducible repeat first|assumption|apply rZ|refine rP ?_ rfl (by simp [go_sem,hc2]))⟩ ⟨(by with_reducible repeat first|assumption|apply rZ|refine rP ?_ rfl (by simp [go_sem,hc2])),(by with_reducible repeat first|assumption|apply rZ|refine rP ?_ rfl (by simp [go_sem,hc2]))⟩ HSA.out HSB.out (by omega)) fun w3 hb3 hc3 hf3 _=> ?_)))
  go_ret;exact ⟨rfl,bi⟩
theorem jeK (hE:Env w) (hl:a.length < 4294967281) (hl':b.length < 4294967281):Calls Tryz.prog 66 #[sp a b] w fun e w'=>e= .returned (.int .i64 (jbB (a,b)))∧Below w.heap.size w w':=by
 unfold jbB;by_cases h:jab chk [a,b]=0
 ·rw [if_neg (by simpa using h)];obtain ⟨h1,h2⟩:=jlp h;have hx:=jbQ h1;have hy:=jbQ h2;have:=jne hE hl hl' hx hy jry;simpa using this
 ·rw [if_pos h];exact jlM hE hl hl' rfl h
end
structure Pv (w:World) (A:Option Addr) (n:Nat) (ls:List (List UInt8×List UInt8)):Prop where
 len:ls.length=n
 at_:0 < n→∃b o,A=some ⟨b,o,none⟩∧b < w.heap.size∧∀j,j < n→w.cell? ⟨b,o+j*2,none⟩=some (bs (ls.getD j ([],[])).1)∧w.cell? ⟨b,o+j*2+1,none⟩=some (bs (ls.getD j ([],[])).2)
theorem Pv.below {w w':World} {A:Option Addr} {n:Nat} {ls:List (List UInt8×List UInt8)} (h:Pv w A n ls) (hb:Below w.heap.size w w'):Pv w' A n ls:=
 ⟨h.len,fun hn=>by
   obtain ⟨b,o,e,h1,h2⟩:=h.at_ hn
   exact ⟨b,o,e,Nat.lt_of_lt_of_le h1 hb.size,fun j hj=>by rw [hb.cell (p:=⟨b,o+j*2,none⟩) h1,hb.cell (p:=⟨b,o+j*2+1,none⟩) h1];exact h2 j hj⟩⟩
section
variable {w:World} {A:Option Addr} {n c:Nat} {ls:List (List UInt8×List UInt8)} {f:List UInt8×List UInt8→Int}
theorem jcY
 (h:Pv w A n ls) (hn:n≤100000) (hf:∀l∈ls,∀W,Below w.heap.size w W→Calls Tryz.prog 66 #[sp l.1 l.2] W fun e w'=>e= .returned (.int .i64 (f l))∧Below W.heap.size W w'):
 Calls Tryz.prog 65 #[.func (.func 66) #[] #[], .slice A n c] w fun e w'=>e= .returned (.int .i64 (jab f ls))∧Below w.heap.size w w':=by
 obtain ⟨R,hR⟩:∃R,jab f ls=R:=⟨_,rfl⟩;rw [hR];have HR:=qh hR;have H:=qh h;have HN:=qh hn;have HF:=qh hf;clear hR h hn hf;go_enter Tryz.func65,Tryz.ntmps65;go_wp2
 go_loopw [10] (fun u wr=>∃(i:Nat),u= .int .i64 (i:Int)∧Below w.heap.size w wr∧i≤n∧jab f (ls.drop i)=R) (fun u _=>n - (intOf u).toNat)
 case atStart=>exact ⟨0,rfl,bi,by omega,HR.out⟩
 case round=>
  obtain ⟨i,rfl,hb,hin,hc⟩:=hrel;have _:=bm hb;by_cases hi:i < n
  ·have q0:decide ((i:Int) < (n:Int))=true:=by simp;exact hi
   obtain ⟨b,o,rfl,hbl,hcell⟩:=(H.out.below hb).at_ (by omega);obtain ⟨hx,hy⟩:=hcell i hi;have hil:i < ls.length:=by rw [H.out.len];exact hi
   rw [jaH (d:=([],[])) hil] at hc;have hmem:ls.getD i ([],[])∈ls:=by rw [List.getD_eq_getElem?_getD,List.getElem?_eq_getElem hil];exact List.getElem_mem hil
   obtain ⟨x,hxx⟩:∃x,ls.getD i ([],[])=x:=⟨_,rfl⟩;rw [hxx] at hx hy hc hmem;have HX:Hid (∀W,Below wr.heap.size wr W→Calls Tryz.prog 66 #[sp x.1 x.2] W fun e w'=>e= .returned (.int .i64 (f x))∧Below W.heap.size W w'):=qh (fun W hW=>HF.out x hmem W (ja1 hb hW));have hnn:=HN.out;have HI:=qh hi;obtain ⟨x1,hx1⟩:∃y,x.1=y:=⟨_,rfl⟩;obtain ⟨x2,hx2⟩:∃y,x.2=y:=⟨_,rfl⟩;rw [hx1] at hx HX;rw [hx2] at hy HX;clear hcell hmem hil hxx hx1 hx2;by_cases h0:f x=0
   ·have HC:Hid (jab f (ls.drop (i+1))=R):=qh (by rw [←hc,jae h0]);rw [h0] at HX;clear hc h0 hi;go_wp2_with (go_at_call 66;(with_reducible refine mo0 (HX.out _ bi) fun w1 hb1 hc1 hf1 _=> ?_))
    exact ⟨⟨i+1,by simp,bi,HI.out,HC.out⟩,by have:=HI.out;simp [intOf];omega⟩
   ·have hR:R=f x:=by rw [←hc,jaT h0]
    subst hR;obtain ⟨y,hy'⟩:∃y,f x=y:=⟨_,rfl⟩;rw [hy'] at HX;have q1:(y != 0)=true:=by rw [bne_iff_ne,←hy'];exact h0
    have HY:=qh hy';clear hc h0 hi hy' HR;go_wp2_with (go_at_call 66;(with_reducible refine mo0 (HX.out _ bi) fun w1 hb1 hc1 hf1 _=> ?_))
    go_ret;exact ⟨by rw [HY.out];rfl,bi⟩
  ·have q0:decide (i < n)=false:=by simp;omega
   rw [List.drop_eq_nil_of_le (by rw [H.out.len];omega)] at hc;have hR:R=0:=by rw [←hc];rfl
   subst hR;clear hc hi HR;go_wp2;go_ret;exact ⟨rfl,bi⟩
end
end Go.Proofs.YteokfcjdfjhhhaaGreatDoor
namespace Go.Proofs.YteokfcjdfjhhhaaGreatDoor
open Go Go.RowKit Go.Sort

theorem jd5 (g j:Nat):(⟨g,0,none⟩:Addr).add j=⟨g,j,none⟩:=by unfold Addr.add;split <;> simp_all
def shs (ps:List (List UInt8×List UInt8)):List Value:=ps.flatMap fun p=> [bs p.1,bs p.2]
theorem jbV (a b:List (List UInt8×List UInt8)):shs (a++b)=shs a++shs b:=by simp [shs]
theorem jjx:∀(a:List (List UInt8×List UInt8)) (j k:Nat),j < a.length→k < 2→(shs a)[j*2+k]? =(shs [a.getD j ([],[])])[k]?
 | [],j,k,h,_=>absurd h (by simp)
 | q::r,0,k,_,hk=>by
   rw [show shs (q::r)=shs [q]++shs r from jbV [q] r,List.getElem?_append_left (by simp [shs];omega)];simp
 | q::r,j+1,k,h,hk=>by
   rw [show shs (q::r)=shs [q]++shs r from jbV [q] r,List.getElem?_append_right (by simp [shs];omega)];have e:(j+1)*2+k - (shs [q]).length=j*2+k:=by simp [shs];omega
   rw [e,jjx r j k (by simpa using h) hk];simp
abbrev jc0 (w:World) (base:Nat) (v:Value) (n:Nat) (ps:List (List UInt8×List UInt8)):Prop:=w.ownsRow base 42 2 v n (shs ps)
theorem jc0.pv {w:World} {base n:Nat} {v:Value} {ps:List (List UInt8×List UInt8)} (h:jc0 w base v n ps) (hl:ps.length=n) (h0:0 < n):∃A c,v= .slice A n c∧Pv w A n ps:=by
 rcases h.2 with ⟨rfl,h1⟩|⟨g,cap,cur,rfl,hb,hg,hnc,hcm,hcs,ht⟩
 ·omega
 ·refine ⟨some ⟨g,0,none⟩,cap,rfl,hl,fun _=>⟨g,0,rfl,(Array.getElem?_eq_some_iff.1 hg).1,fun j hj=> ?_⟩⟩;have hc:=World.ownsRow.cells h (g:=g) rfl
  have c (k:Nat) (hk:k < 2) (u:Value) (hu:(shs [ps.getD j ([],[])])[k]? =some u):w.cell? ⟨g,0+j*2+k,none⟩=some u:=by
   have:=hc (j*2+k) u (by rw [jjx ps j k (by omega) hk,hu]);rw [jd5] at this;rw [Nat.zero_add];exact this
  exact ⟨c 0 (by omega) _ rfl,c 1 (by omega) _ rfl⟩
theorem jdi {w w':World} (h:Below w.heap.size w w') (row:Option Nat):w.grownBy w' row:=⟨h.os,h.tape,h.output,h.size,fun k hk _=>h.block k hk⟩
theorem jc0.below {w w':World} {base n:Nat} {v:Value} {ps:List (List UInt8×List UInt8)} (h:jc0 w base v n ps) (hb:Below w.heap.size w w'):jc0 w' base v n ps:=
 World.ownsRow.kept h (jdi hb none) (by cases hv:v.ownBlock <;> simp)
theorem jeO:(Tryz.prog.info? 42).map (fun i=>(i.zero,i.size,i.bytes))=some (some (.agg #[.string ByteArray.empty, .string ByteArray.empty]),2,32):=by kernel_rfl
theorem jmD {w:World} {base n b c:Nat} {v:Value} {ps:List (List UInt8×List UInt8)} {x:List UInt8×List UInt8} (h:jc0 w base v n ps) (hn:n≤100000) (hb:base≤w.heap.size)
  (h0:w.cell? ⟨b,0,none⟩=some (bs x.1)) (h1:w.cell? ⟨b,1,none⟩=some (bs x.2)):
  ∃v' w',(Builtin.append_ #[27,27] 27 #[v, .slice (some ⟨b,0,none⟩) 1 c]).run Tryz.prog w= .ok v' w'∧jc0 w' base v' (n+1) (ps++[x])∧w.grownBy w' v.ownBlock∧(v'.ownBlock=v.ownBlock∨v'.ownBlock=some w.heap.size):=by
 obtain ⟨i,hi,hz0,hz1,hz2⟩:=info_parts jeO
 obtain ⟨v',w',hr,k1,k2,_,k3⟩:=run_append_own_at (P:=Tryz.prog) w base 27 27 42 i _ 2 32 Tryz.underlying27 hi hz0 hz1 hz2 rfl (by decide) v n (shs ps) h ⟨b,0,none⟩ 1 c (shs [x]) (by simp [shs])
  (by
    intro j u hu;rw [jd5]
    match j,hu with
    | 0,hu=>simp [shs] at hu;subst hu;exact h0
    | 1,hu=>simp [shs] at hu;subst hu;exact h1
    | j+2,hu=>simp [shs] at hu)
  (by intro u hu;simp [shs] at hu;rcases hu with rfl|rfl <;> rfl)
  (by simp only [maxLen];omega) (by omega) hb
 exact ⟨v',w',hr,by rw [jc0,jbV];exact k1,k2,k3⟩
theorem jdZ {P:Program} {o:Oper} {a:Act} {K:Act→World→Prop} {Q:Exit→Act→World→Prop} {w w':World} {v z v':Value} {t:TypeId} (s y:Operand)
  (ho:o.op= .call { callee:= .builtin .append,args:= #[s,y],argTypes:= #[t,t] }) (hs:a.eval s=v) (hy:a.eval y=z)
  (hr:(Builtin.append_ #[t,t] o.type #[v,z]).run P w= .ok v' w') (hK:K (a.put o.dst v') w'):o.wp P a w K Q:=by
 unfold Oper.wp execOp;simp only [ho,resolve,invoke,builtin,Sem.run_bind,Sem.run_pure,Result.andThen_ok,List.map_toArray,List.map_cons,List.map_nil,hs,hy,hr];exact hK
theorem jd9 {ops:Array Oper} {rest:List Oper} {o:Oper} {a:Act} {Q:Exit→Act→World→Prop} {w:World} {base n b c:Nat} {v:Value} {ps:List (List UInt8×List UInt8)} {x:List UInt8×List UInt8} (hg:o.guard=none) (s y:Operand)
  (ho:o.op= .call { callee:= .builtin .append,args:= #[s,y],argTypes:= #[27,27] }) (ht:o.type=27) (hs:a.eval s=v) (hy:a.eval y= .slice (some ⟨b,0,none⟩) 1 c)
  (h:jc0 w base v n ps) (hn:n≤100000) (hb:base≤w.heap.size) (h0:w.cell? ⟨b,0,none⟩=some (bs x.1)) (h1:w.cell? ⟨b,1,none⟩=some (bs x.2))
  (hK:∀v' w',jc0 w' base v' (n+1) (ps++[x])→w.grownBy w' v.ownBlock→(v'.ownBlock=v.ownBlock∨v'.ownBlock=some w.heap.size)→wpList Tryz.prog ops Q rest (a.put o.dst v') w'):wpList Tryz.prog ops Q (o::rest) a w:=by
 obtain ⟨v',w',hr,k1,k2,k3⟩:=jmD h hn hb h0 h1;refine wpList_plain hg fun K' hK'=> ?_
 exact jdZ s y ho hs hy (by rw [ht];exact hr) (hK' _ _ (hK v' w' k1 k2 k3))
theorem jc0.slice {w:World} {base n:Nat} {v:Value} {ps:List (List UInt8×List UInt8)} (h:jc0 w base v n ps):∃A c,v= .slice A n c:=by
 rcases h.2 with ⟨rfl,h1⟩|⟨g,cap,cur,rfl,_⟩
 ·exact ⟨none,0,by rw [h1]⟩
 ·exact ⟨_,_,rfl⟩
theorem jcT {ops:Array Oper} {rest:List Oper} {o:Oper} {a:Act} {Q:Exit→Act→World→Prop} {w:World} {base n b c:Nat} {v:Value} {ps:List (List UInt8×List UInt8)} {x:List UInt8×List UInt8} (hg:o.guard=none) (s y:Operand)
  (ho:o.op= .call { callee:= .builtin .append,args:= #[s,y],argTypes:= #[27,27] }) (ht:o.type=27) (hs:a.eval s=v) (hy:a.eval y= .slice (some ⟨b,0,none⟩) 1 c)
  (h:jc0 w base v n ps) (hn:n≤100000) (hb:base≤w.heap.size) (h0:w.cell? ⟨b,0,none⟩=some (bs x.1)) (h1:w.cell? ⟨b,1,none⟩=some (bs x.2))
  (hK:∀A' c' w',jc0 w' base (.slice A' (n+1) c') (n+1) (ps++[x])→w.grownBy w' v.ownBlock→((Value.slice A' (n+1) c').ownBlock=v.ownBlock∨(Value.slice A' (n+1) c').ownBlock=some w.heap.size)→wpList Tryz.prog ops Q rest (a.put o.dst (.slice A' (n+1) c')) w'):wpList Tryz.prog ops Q (o::rest) a w:=
 jd9 hg s y ho ht hs hy h hn hb h0 h1 (fun v' w' k1 k2 k3=>by
  obtain ⟨A',c',rfl⟩:=k1.slice
  exact hK A' c' w' k1 k2 k3)
end Go.Proofs.YteokfcjdfjhhhaaGreatDoor
