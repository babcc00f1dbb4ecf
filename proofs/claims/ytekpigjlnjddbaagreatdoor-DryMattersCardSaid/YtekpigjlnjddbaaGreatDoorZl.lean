/- Parts. -/
import Derived.Test.YtekpigjlnjddbaaGreatDoorZhG
set_option linter.all false
set_option maxRecDepth 100000
set_option maxHeartbeats 8000000
namespace Go.Proofs.YtekpigjlnjddbaaGreatDoor
open Go Go.RowKit

theorem jfm.form {w:World} {base n:Nat} {v:Value} {ts:List (List UInt8)} (h:jfm w base v n ts):∃A c,v= .slice A n c∧Sv w A n ts:=by
 rcases Nat.eq_zero_or_pos n with e|e
 ·subst e;have hq:ts=[]:=List.eq_nil_of_length_eq_zero (by have:=h.1;rw [List.length_map] at this;omega);subst hq;rcases h.2 with ⟨rfl,_⟩|⟨g,cap,cur,rfl,_⟩
  ·exact ⟨none,0,rfl,rfl,fun h=>by omega⟩
  ·exact ⟨_,cap,rfl,rfl,fun h=>by omega⟩
 ·exact jfm.sv h e
theorem jnV {base i:Nat} {S W1 W2 W3:World} {u v:Value} {ts:List (List UInt8)}
  (hF:jfm S base v i ts) (hd:∀b,u.ownBlock=some b→v.ownBlock≠some b)
  (g1:W1.grownBy W2 u.ownBlock) (h1:Below S.heap.size S W1) (h3:Below W2.heap.size W2 W3):jfm W3 base v i ts:=by
 refine jfm.below (World.ownsRow.kept (jfm.below hF h1) g1 ?_) h3;cases e:v.ownBlock with
 | none=>exact .inl rfl
 | some b=>exact .inr (fun e2=>hd b e2.symm e)
theorem jkY {i:Nat} {w S W1 W2 W3 W4:World} {u v u' v':Value} {zs zs':List Int} {ts ts':List (List UInt8)}
  (hB:Below w.heap.size w S) (hJ:OwnJ S w.heap.size u i zs) (hF:jfm S w.heap.size v i ts) (hd:∀b,u.ownBlock=some b→v.ownBlock≠some b)
  (g1:W1.grownBy W2 u.ownBlock) (j2:OwnJ W2 w.heap.size u' (i+1) zs') (l2:u'.ownBlock=u.ownBlock∨u'.ownBlock=some W1.heap.size)
  (g3:W3.grownBy W4 v.ownBlock) (f4:jfm W4 w.heap.size v' (i+1) ts') (l4:v'.ownBlock=v.ownBlock∨v'.ownBlock=some W3.heap.size) (h1:Below S.heap.size S W1) (h3:Below W2.heap.size W2 W3):
  OwnJ W4 w.heap.size u' (i+1) zs'∧(∀b,u'.ownBlock=some b→v'.ownBlock≠some b)∧Below w.heap.size w W4:=by
 have z1:=h1.size;have z2:=g1.size;have z3:=h3.size;have hlt:∀b,v.ownBlock=some b→w.heap.size≤b∧b < S.heap.size:=World.ownsRow.lt hF
 have hu:∀b,u'.ownBlock=some b→v.ownBlock≠some b:=fun b e e2=>by
  rcases l2 with l|l
  ·exact hd b (l ▸ e) e2
  ·rw [l] at e;cases e
   have:=(hlt _ e2).2;omega
 have hu2:∀b,u'.ownBlock=some b→b < W2.heap.size:=fun b e=>(j2.lt b e).2
 refine ⟨(j2.below h3).kept g3 (fun b e e2=>hu b e e2.symm),fun b e e2=> ?_, ?_⟩
 ·rcases l4 with l|l
  ·exact hu b e (l ▸ e2)
  ·rw [l] at e2;cases e2
   have:=hu2 _ e;omega
 ·have b1:=ja0 hB h1;have b2:Below w.heap.size w W2:=b1.trans (jab g1 b1.size (fun k e=>(hJ.lt k e).1));have b3:=ja0 b2 h3;exact b3.trans (jab g3 b3.size (fun k e=>(hlt k e).1))
theorem jf9 {ops:Array Oper} {rest:List Oper} {o:Oper} {a:Act} {Q:Exit→Act→World→Prop} {w:World} {base n b c:Nat} {v:Value} {zs:List Int} {q:Int} (hg:o.guard=none) (s y:Operand)
  (ho:o.op= .call { callee:= .builtin .append,args:= #[s,y],argTypes:= #[26,26] }) (ht:o.type=26) (hs:a.eval s=v) (hy:a.eval y= .slice (some ⟨b,0,none⟩) 1 c)
  (h:OwnJ w base v n zs) (hn:n≤100000) (hb:base≤w.heap.size) (h0:w.cell? ⟨b,0,none⟩=some (.int .i64 q))
  (hK:∀v' w',OwnJ w' base v' (n+1) (zs++[q])→w.grownBy w' v.ownBlock→(v'.ownBlock=v.ownBlock∨v'.ownBlock=some w.heap.size)→wpList Tryz.prog ops Q rest (a.put o.dst v') w'):wpList Tryz.prog ops Q (o::rest) a w:=by
 obtain ⟨v',w',hr,k1,k2,k3⟩:=juj h hn hb h0;refine wpList_plain hg fun K' hK'=> ?_
 exact jdG s y ho hs hy (by rw [ht];exact hr) (hK' _ _ (hK v' w' k1 k2 k3))
section
variable {w:World} {A:Option Addr} {n c:Nat} {qs:List Rat}
theorem jp1 {r:Int} (h:Sv w A n (qs.map tq)) (hn:n≤1000) (hd:∀x∈qs,Dz 1000 x) (hr:(if qs.any je3 then (4:Int) else 0)=r):Calls Tryz.prog 32 #[.slice A n c] w fun e w'=>e= .returned (.int .i64 r)∧Below w.heap.size w w':=by
 have H:=qh h;have HN:=qh hn;have HD:=qh hd;have HR:=qh hr;have hlen:qs.length=n:=by have:=h.len;rwa [List.length_map] at this
 have HL:=qh hlen;clear h hn hd hr hlen;go_enter Tryz.func32,Tryz.ntmps32;go_wp2
 go_loopw [3] (fun u wr=>∃(i:Nat),u= .int .i64 (i:Int)∧i≤n∧Below w.heap.size w wr∧(if (qs.drop i).any je3 then (4:Int) else 0)=r) (fun u _=>n - (intOf u).toNat)
 case atStart=>exact ⟨0,rfl,Nat.zero_le _,bi,HR.out⟩
 case round=>
  obtain ⟨i,rfl,hin,hb,hc⟩:=hrel;have _:=bm hb;have hnn:=HN.out;by_cases hi:i < n
  ·have q0:decide ((i:Int) < (n:Int))=true:=by simp;exact hi
   have q9:decide (i < n)=true:=by simpa using hi
   obtain ⟨b,o,rfl,hbl,hcell⟩:=(H.out.below hb).at_ (by omega);have hx:=hcell i hi;have hil:i < qs.length:=by rw [HL.out];exact hi
   have e:(qs.map tq).getD i []=tq (qs.getD i 0):=by simp [List.getD_eq_getElem?_getD,hil]
   rw [e] at hx;have hdz:=HD.out (qs.getD i 0) (by rw [List.getD_eq_getElem?_getD,List.getElem?_eq_getElem hil];exact List.getElem_mem hil);rw [jd5 (d:=(0:Rat)) hil,List.any_cons] at hc;obtain ⟨y,hy⟩:∃y,qs.getD i 0=y:=⟨_,rfl⟩;rw [hy] at hx hdz hc;obtain ⟨k,hk⟩:∃k,jbq y=k:=⟨_,rfl⟩;have HG:=qh (fun W=>jjD (w:=W) hk hdz (by omega) (by omega));obtain ⟨X,hX⟩:∃X,tq y=X:=⟨_,rfl⟩;rw [hX] at hx HG;have HI:=qh hi;clear hcell hil e hdz hy hX;cases hl:je3 y with
   | true=>
     obtain rfl:(4:Int)=k:=by rw [←hk];unfold jbq;rw [hl];rfl
     rw [hl] at hc;obtain rfl:(4:Int)=r:=hc;clear hk hl;go_wp2_with (go_at_call 101;(with_reducible refine mo0 (HG.out _) fun w1 hb1 hc1 hf1 _=> ?_))
     go_ret;exact ⟨rfl,bi⟩
   | false=>
     obtain rfl:(0:Int)=k:=by rw [←hk];unfold jbq;rw [hl];rfl
     rw [hl,Bool.false_or] at hc;have HC:=qh hc;clear hk hl hc;go_wp2_with (go_at_call 101;(with_reducible refine mo0 (HG.out _) fun w1 hb1 hc1 hf1 _=> ?_))
     exact ⟨⟨i+1,by simp,HI.out,bi,HC.out⟩,by have:=HI.out;simp [intOf];omega⟩
  ·have q0:decide (i < n)=false:=by simp;omega
   rw [List.drop_eq_nil_of_le (by rw [HL.out];omega)] at hc;obtain rfl:(0:Int)=r:=hc;clear hi;go_wp2;go_ret;exact ⟨rfl,bi⟩
end
section
variable {w:World} {A:Option Addr} {n c:Nat} {a:List UInt8} {ls:List (List UInt8)} {mass:Int}
theorem jlu {k:Int} (hla:a.length≤5000) (hn:n≤100000) (hk:stB mass a n=k) (h0:k≠0):Calls Tryz.prog 6 #[.int .i64 mass,bs a, .slice A n c] w fun e w'=>e= .returned (.tuple #[.slice none 0 0, .slice none 0 0, .int .i64 k])∧Below w.heap.size w w':=by
 obtain ⟨k0,hk0⟩:∃k,jbr mass=k:=⟨_,rfl⟩;obtain ⟨k1,hk1⟩:∃k,mst a=k:=⟨_,rfl⟩;have HM:=qh (fun W=>jgY (w:=W) hk0);have HMO:=qh (fun W=>jcV (w:=W) hk1 hla);unfold stB at hk;rw [hk0,hk1] at hk;have q9:(k != 0)=true:=by rw [bne_iff_ne];exact h0
 by_cases e0:k0=0
 ·subst e0;rw [if_pos rfl] at hk;by_cases e1:k1=0
  ·subst e1;rw [if_pos rfl] at hk;by_cases e2:256 < n
   ·rw [if_pos e2] at hk;subst hk;have q1:decide ((256:Int) < (n:Int))=true:=by rw [decide_eq_true_iff];omega
    clear hla hn hk0 hk1 h0 e2;go_enter Tryz.func6,Tryz.ntmps6;go_wp2_with (first|(go_at_call 29;(with_reducible refine mo0 (HM.out _) fun w1 hb1 hc1 hf1 _=> ?_))|(go_at_call 30;(with_reducible refine mo0 (HMO.out _) fun w2 hb2 hc2 hf2 _=> ?_)))
    go_ret3;exact ⟨rfl,bi⟩
   ·rw [if_neg e2] at hk;exact absurd hk.symm h0
  ·rw [if_neg e1] at hk;subst hk;have q2:(k1==0)=false:=by rw [beq_eq_false_iff_ne];exact h0
   clear hla hn hk0 hk1 h0 e1;go_enter Tryz.func6,Tryz.ntmps6;go_wp2_with (first|(go_at_call 29;(with_reducible refine mo0 (HM.out _) fun w1 hb1 hc1 hf1 _=> ?_))|(go_at_call 30;(with_reducible refine mo0 (HMO.out _) fun w2 hb2 hc2 hf2 _=> ?_)))
   go_ret3;exact ⟨rfl,bi⟩
 ·rw [if_neg e0] at hk;subst hk;have q2:(k0==0)=false:=by rw [beq_eq_false_iff_ne];exact h0
  clear hla hn hk0 hk1 h0 e0;go_enter Tryz.func6,Tryz.ntmps6;go_wp2_with (go_at_call 29;(with_reducible refine mo0 (HM.out _) fun w1 hb1 hc1 hf1 _=> ?_))
  go_ret3;exact ⟨rfl,bi⟩
set_option maxHeartbeats 16000000 in
theorem jj5 {k:Nat} {F kr:Int} {Ms:List Int} {Ts:List (List UInt8)} (h:Sv w A n ls) (hk:0 < k) (hk2:k≤100) (hla:a.length≤k) (hll:∀l∈ls,l.length≤k) (hn:n≤6) (hB:stB mass a n=0) (hF:jar (stE mass (numQ a) ls) (List.range n)=F) (hR:stR mass a ls n=(Ms,Ts,kr)):
  Calls Tryz.prog 6 #[.int .i64 mass,bs a, .slice A n c] w fun e w'=>∃A1 n1 c1 A2 n2 c2,e= .returned (.tuple #[.slice A1 n1 c1, .slice A2 n2 c2, .int .i64 kr])∧Iv6 w' A1 n1 Ms∧Sv w' A2 n2 Ts∧Below w.heap.size w w':=by
 unfold stR at hR;rw [if_pos hB,hF] at hR;obtain ⟨hm0,ha0,_⟩:=je6 hB;obtain ⟨m1,m2⟩:=jg9 hm0;have hx:=jeF ha0;have hst:=StI.zero (ls:=ls) m1 m2 hx.high (hx.num.dzl hla hk);have HM:=qh (fun W=>jgY (w:=W) hm0);have HMO:=qh (fun W=>jcV (w:=W) ha0 (by omega));obtain ⟨x,hxx⟩:∃x,numQ a=x:=⟨_,rfl⟩;rw [hxx] at hx hst hF hR;have HR:=qh hR;have H:=qh h;have HL:=qh hll;have HN:=qh (And.intro hn (And.intro hk hk2));have HST:=qh hst;have HF0:=qh hF;have HAX:=qh (show bs a=bs (tq (stp mass x ls 0).2) by rw [show (stp mass x ls 0).2=x from rfl,←hx.num.eq]);have q1:decide ((256:Int) < (n:Int))=false:=by rw [decide_eq_false_iff_not];omega
 clear h hk hk2 hla hll hn hB hF hR hm0 ha0 m1 m2 hx hst hxx;go_enter Tryz.func6,Tryz.ntmps6;go_wp2_with (first|(go_at_call 29;(with_reducible refine mo0 (HM.out _) fun w1 hb1 hc1 hf1 _=> ?_))|(go_at_call 30;(with_reducible refine mo0 (HMO.out _) fun w2 hb2 hc2 hf2 _=> ?_)))
 have bU:Below w.heap.size w w2:=bi;clear hc1 hc2 hf1 hf2 hb1 hb2 q1 HM HMO
 go_loopw [0,1,10,11,12] (fun m t v1 v2 u wr=>∃(i:Nat),m= .int .i64 (stp mass x ls i).1∧t=bs (tq (stp mass x ls i).2)∧u= .int .i64 (i:Int)∧i≤n∧Below w.heap.size w wr∧OwnJ wr w.heap.size v1 i (stM mass x ls i)∧jfm wr w.heap.size v2 i ((stX mass x ls i).map tq)∧(∀b,v1.ownBlock=some b→v2.ownBlock≠some b)∧jar (stE mass x ls) ((List.range n).drop i)=F∧StI mass x ls k i) (fun _ _ _ _ u _=>n - (intOf u).toNat)
 case atStart=>exact ⟨0,rfl,HAX.out,rfl,Nat.zero_le _,bU,OwnJ.nil _ _,World.ownsRow_nil _ _ _ _,fun b e=>(by cases e),HF0.out,HST.out⟩
 case round=>
  obtain ⟨i,rfl,rfl,rfl,hin,hb,hJ,hV,hd,hF,hI⟩:=hrel;have _:=bm hb;have hnn:=HN.out;obtain ⟨mi,hmi⟩:∃m,(stp mass x ls i).1=m:=⟨_,rfl⟩;obtain ⟨xi,hxi⟩:∃m,(stp mass x ls i).2=m:=⟨_,rfl⟩;rw [hmi,hxi];by_cases hi:i < n
  ·have q0:decide ((i:Int) < (n:Int))=true:=by simp;exact hi
   have q9:decide (i < n)=true:=by simpa using hi
   obtain ⟨b,o,rfl,hbl,hcell⟩:=(H.out.below hb).at_ (by omega);have hl:=hcell i hi;have hil:i < ls.length:=by rw [H.out.len];exact hi
   have hmem:ls.getD i []∈ls:=by rw [List.getD_eq_getElem?_getD,List.getElem?_eq_getElem hil];exact List.getElem_mem hil
   have hlen:=HL.out _ hmem;rw [jfU hi] at hF;obtain ⟨l,hll⟩:∃l,ls.getD i []=l:=⟨_,rfl⟩;rw [hll] at hl hlen;have hdz:=hI.dz;rw [hxi] at hdz;by_cases e0:stE mass x ls i=0
   ·rw [if_pos e0] at hF;obtain ⟨hm,hc,hI2⟩:=hI.step hnn.2.1 (by rw [hll];exact hlen) e0;rw [hll] at hm hc;rw [hmi,hxi] at hc;obtain ⟨y,hy⟩:∃y,numQ l=y:=⟨_,rfl⟩;rw [hy] at hm hc;obtain ⟨j,hj⟩:∃j,Rq.cmpQ y xi=j:=⟨_,rfl⟩;have q5:decide (0 < j)=false:=by rw [decide_eq_false_iff_not,←hj];exact fun e=>Rat.not_lt.2 hc.hyx (Rq.cmp_pos.1 e)
    obtain ⟨mo,hmo⟩:∃m,(stp mass x ls (i+1)).1=m:=⟨_,rfl⟩;obtain ⟨xo,hxo⟩:∃m,(stp mass x ls (i+1)).2=m:=⟨_,rfl⟩;have hzo:100 - (mi:Rat)*(100 - xi) / (mo:Rat)=xo:=by rw [←hxo,←hmo,←hmi,←hxi];rfl
    rw [hmo] at hc;have dy:=hm.num.dzl hlen hnn.2.1;have HMS:=qh (fun W=>jcV (w:=W) hm.mst (by omega));have HJ:=qh (fun W=>jko (w:=W) hj dy hdz hnn.2.1 (by omega) (by omega) (by omega));have HDR:=qh (fun W=>jhB (w:=W) hc hzo hdz dy (by omega) hnn.2.1 (by omega) (by omega));rw [←hm.num.eq] at HJ HDR;obtain ⟨XI,hXI⟩:∃X,tq xi=X:=⟨_,rfl⟩;obtain ⟨XO,hXO⟩:∃X,tq xo=X:=⟨_,rfl⟩;rw [hXI] at HJ HDR ⊢;rw [hXO] at HDR;have HI:=qh (And.intro hi (And.intro hF hI2));have HJJ:=qh hJ;have HVV:=qh hV;have HD:=qh hd;have HBB:=qh hb;have HOO:=qh (And.intro hmo (And.intro hxo hXO));have hi6:i≤100000:=by omega
    clear hcell hil hmem hlen hF hll e0 hm hc hI hI2 hdz hy hj hmi hxi hmo hxo hzo hJ hV hd hin hnn dy hXI hXO;go_upto_region 19 with (first|((go_at_call 30;(with_reducible refine mo0 (HMS.out _) fun w1 hb1 hc1 hf1 _=> ?_));(first|have y1_0:=szl (k:=b) hb1 (by first|go_size|fail)|have y1_0:=Nat.one_pos))|((go_at_call 14;(with_reducible refine mo0 (HJ.out _) fun w2 hb2 hc2 hf2 _=> ?_));(first|have y2_0:=szl (k:=b) hb2 (by first|go_size|fail)|have y2_0:=Nat.one_pos))|(go_at_call 31;(with_reducible refine mo0 (HDR.out _) fun w3 hb3 hc3 hf3 _=> ?_)))
    have b3:RowKit.Below wr.heap.size wr w3:=bi;have hJ3:=qh (HJJ.out.below b3);have hV3:=qh (jfm.below HVV.out b3);have hB3:=qh (ja0 HBB.out b3);have hsz:=hB3.out.size;clear hc1 hc2 hc3 hf1 hf2 hf3 hb1 hb2 hb3 b3 hl;go_wp2_with (first|(at_builtin;refine jf9 (base:=w.heap.size) (n:=i) (zs:=stM mass x ls i) (q:=mo) rfl _ _ rfl rfl rfl rfl (OwnJ.below hJ3.out bi) hi6 (by simp;omega) (by simp) ?_;intro v6 w6 hj6 hg6 hl6)|(at_builtin;refine jdB (base:=w.heap.size) (n:=i) (ts:=(stX mass x ls i).map tq) (x:=XO) rfl _ _ rfl rfl rfl rfl (jnV hV3.out HD.out hg6 bi bi) hi6 (by have:=hg6.size;simp at this;simp;omega) (by simp) ?_;intro v7 w7 hf7 hg7 hl7))
    obtain ⟨p1,p2,p3⟩:=jkY hB3.out hJ3.out hV3.out HD.out hg6 hj6 hl6 hg7 hf7 hl7 bi bi;have hI2:=HI.out;have hO:=HOO.out;exact ⟨⟨i+1,by rw [hO.1],by rw [hO.2.1,hO.2.2],by simp,hI2.1,p3,by rw [jk4,hO.1];exact p1,by rw [jke,List.map_append,hO.2.1,List.map_cons,hO.2.2];exact hf7,p2,hI2.2.1,hI2.2.2⟩,by simp [intOf];omega⟩
   ·rw [if_neg e0] at hF;have hR:=HR.out;rw [if_neg (by rw [←hF];exact e0)] at hR;obtain rfl: []=Ms:=(Prod.mk.inj hR).1;obtain rfl: []=Ts:=(Prod.mk.inj (Prod.mk.inj hR).2).1;obtain rfl:F=kr:=(Prod.mk.inj (Prod.mk.inj hR).2).2;have hs:=hF;unfold stE at hs;rw [hll] at hs;by_cases e1:mst l=0
    ·rw [if_pos e1,hxi] at hs;have hm:=jeF e1;obtain ⟨y,hy⟩:∃y,numQ l=y:=⟨_,rfl⟩;rw [hy] at hm hs;by_cases e2:xi < y
     ·rw [if_pos e2] at hs;obtain rfl:(11:Int)=F:=hs;obtain ⟨j,hj⟩:∃j,Rq.cmpQ y xi=j:=⟨_,rfl⟩;have q5:decide (0 < j)=true:=by rw [decide_eq_true_iff,←hj];exact Rq.cmp_pos.2 e2
      have dy:=hm.num.dzl hlen hnn.2.1;have HMS:=qh (fun W=>jcV (w:=W) hm.mst (by omega));have HJ:=qh (fun W=>jko (w:=W) hj dy hdz hnn.2.1 (by omega) (by omega) (by omega));rw [←hm.num.eq] at HJ;obtain ⟨XI,hXI⟩:∃X,tq xi=X:=⟨_,rfl⟩;rw [hXI] at HJ ⊢;clear hcell hil hmem hlen hF hR hll e0 e1 e2 hm hI hdz hy hj hmi hxi hJ hV hd hin hnn dy hXI;go_wp2_with (first|((go_at_call 30;(with_reducible refine mo0 (HMS.out _) fun w1 hb1 hc1 hf1 _=> ?_));(first|have y1_0:=szl (k:=b) hb1 (by first|go_size|fail)|have y1_0:=Nat.one_pos))|(go_at_call 14;(with_reducible refine mo0 (HJ.out _) fun w2 hb2 hc2 hf2 _=> ?_)))
      go_ret3;exact ⟨none,0,0,none,0,0,rfl,⟨rfl,fun h=>by omega⟩,⟨rfl,fun h=>by omega⟩,ja0 hb bi⟩
     ·rw [if_neg e2] at hs;exact absurd (hF.trans hs.symm) e0
    ·rw [if_neg e1] at hs;obtain ⟨z,hz⟩:∃z,mst l=z:=⟨_,rfl⟩;rw [hz] at hs e1;subst hs;have q1:(z != 0)=true:=by rw [bne_iff_ne];exact e1
     have q2:(z==0)=false:=by rw [beq_eq_false_iff_ne];exact e1
     have HMS:=qh (fun W=>jcV (w:=W) hz (by omega));clear hcell hil hmem hlen hF hR hll e0 e1 hI hmi hxi hJ hV hd hin hnn hz hdz;go_wp2_with (go_at_call 30;(with_reducible refine mo0 (HMS.out _) fun w1 hb1 hc1 hf1 _=> ?_))
     go_ret3;exact ⟨none,0,0,none,0,0,rfl,⟨rfl,fun h=>by omega⟩,⟨rfl,fun h=>by omega⟩,ja0 hb bi⟩
  ·have q0:decide (i < n)=false:=by simp;omega
   obtain rfl:n=i:=by omega
   rw [List.drop_eq_nil_of_le (by rw [List.length_range];exact Nat.le_refl _)] at hF;obtain rfl:(0:Int)=F:=hF;have hall:=StI.all HST.out hnn.2.1 HL.out (n:=n) (fun j hj=>jdI HF0.out j (List.mem_range.2 hj));obtain ⟨A1,c1,rfl,hJ1⟩:=hJ.form;obtain ⟨A2,c2,rfl,hV1⟩:=jfm.form hV;have hR:=HR.out;rw [if_pos rfl] at hR
   have hS:∀y∈stX mass x ls n,Dz 1000 y:=fun y hy=>by
    obtain ⟨j,hj,rfl⟩:=List.mem_map.1 hy;exact (hall (j+1) (List.mem_range.1 hj)).dz.mono (by have:=List.mem_range.1 hj;omega)
   obtain ⟨qs,hqs⟩:∃qs,stX mass x ls n=qs:=⟨_,rfl⟩;rw [hqs] at hV1 hR hS;obtain ⟨Z,hZ⟩:∃Z,stM mass x ls n=Z:=⟨_,rfl⟩;rw [hZ] at hJ1 hR;obtain ⟨r,hr⟩:∃r,(if qs.any je3 then (4:Int) else 0)=r:=⟨_,rfl⟩;have HLR:=qh (jp1 (c:=c2) hV1 (by omega) hS hr);have HJ1:=qh hJ1;have HV1:=qh hV1;cases hG:qs.any je3 with
   | true=>
     rw [hG,if_pos rfl] at hR hr;subst hr;obtain rfl: []=Ms:=(Prod.mk.inj hR).1;obtain rfl: []=Ts:=(Prod.mk.inj (Prod.mk.inj hR).2).1;obtain rfl:(4:Int)=kr:=(Prod.mk.inj (Prod.mk.inj hR).2).2;clear hJ hV hd hI hall hJ1 hV1 hR hqs hS hZ hG hmi hxi hi hin hnn;go_wp2_with (go_at_call 32;(with_reducible refine mo0 (HLR.out) fun w1 hb1 hc1 hf1 _=> ?_))
     go_ret3;exact ⟨none,0,0,none,0,0,rfl,⟨rfl,fun h=>by omega⟩,⟨rfl,fun h=>by omega⟩,ja0 hb bi⟩
   | false=>
     rw [hG,if_neg (by decide)] at hR hr;subst hr;obtain rfl:Z=Ms:=(Prod.mk.inj hR).1;obtain rfl:qs.map tq=Ts:=(Prod.mk.inj (Prod.mk.inj hR).2).1;obtain rfl:(0:Int)=kr:=(Prod.mk.inj (Prod.mk.inj hR).2).2;clear hJ hV hd hI hall hJ1 hV1 hR hqs hS hZ hG hmi hxi hi hin hnn;go_wp2_with (go_at_call 32;(with_reducible refine mo0 (HLR.out) fun w1 hb1 hc1 hf1 _=> ?_))
     go_ret3;exact ⟨_,_,_,_,_,_,rfl,HJ1.out.below bi,HV1.out.below bi,ja0 hb bi⟩
end
end Go.Proofs.YtekpigjlnjddbaaGreatDoor
