/- Parts. -/
import Derived.Test.YtcophhhpgmilfaaGreatDoorBy
set_option linter.all false
set_option maxRecDepth 100000
set_option maxHeartbeats 8000000
namespace Go.Proofs.YtcophhhpgmilfaaGreatDoor
open Go Go.RowKit Go.Proofs.Tryz

section
variable {w:World} {A:Option Addr} {n c:Nat} {ls:List (List UInt8×List UInt8)} {a t:List UInt8}
theorem jxo:jar chk [a,t]=if chk a=0 then chk t else chk a:=jxj a t
theorem jxk (h:jx5 ls n=0):cvE ls n=0∧jar (dwI ls) (List.range n)=0:=by
 unfold jx5 at h;by_cases z:cvE ls n=0
 ·rw [if_pos z] at h;exact ⟨z,h⟩
 ·rw [if_neg z] at h;exact absurd h z
theorem jxm (h:jx5 ls n=0) (hlen:ls.length=n) (hl:∀l∈ls,l.1.length≤30∧l.2.length≤30):CurOk 30 n ls∧(0 < n∧n≤64):=by
 obtain ⟨h1,h2⟩:=jxk h;have hN:=jwE h1;refine ⟨⟨hlen,hN,fun i hi=> ?_,fun i hi=> ?_⟩,(jwO h1).1⟩
 ·have hm:ls.getD i ([],[])∈ls:=by rw [List.getD_eq_getElem?_getD,List.getElem?_eq_getElem (by omega)];exact List.getElem_mem _
  have l:=hl _ hm;exact ⟨(hN i hi).1.dzl l.1 (by omega),(hN i hi).2.dzl l.2 (by omega)⟩
 ·have:=jdI h2 (i+1) (List.mem_range.2 hi);unfold dwI at this;split at this
  ·rw [show i+1 - 1=i by omega] at this;by_cases z:numQ (ls.getD (i+1) ([],[])).2 < numQ (ls.getD i ([],[])).2
   ·exact z
   ·rw [if_pos ⟨by omega,z⟩] at this;cases this
  ·cases this
set_option maxHeartbeats 16000000 in
theorem jxf {K:Int} {T:List UInt8} (h:Pv w A n ls) (hn:n≤100000) (hl:∀l∈ls,l.1.length≤30∧l.2.length≤30) (hla:a.length≤30) (hlt:t.length≤30) (hK:tmK ls n a t=K) (hT:tmT ls n a t=T):
  Calls prog 8 #[.slice A n c,bs a,bs t] w fun e w'=>e= .returned (.tuple #[bs T, .int .i64 K])∧Below w.heap.size w w':=by
 obtain ⟨D,hD⟩:∃D,jx5 ls n=D:=⟨_,rfl⟩;obtain ⟨k1,hk1⟩:∃D,chk a=D:=⟨_,rfl⟩;obtain ⟨k2,hk2⟩:∃D,chk t=D:=⟨_,rfl⟩;have HCD:=qh (fun W (hb:Below w.heap.size w W)=>jwZ (c:=c) (h.below hb) hn hl hD);have HCA:=qh (fun W=>jpl (w:=W) hk1 (by omega));have HCT:=qh (fun W=>jpl (w:=W) hk2 (by omega));unfold tmT at hT;rw [hK] at hT;unfold tmK at hK;rw [hD,jxo,hk1,hk2] at hK;by_cases d0:D=0
 ·subst d0;rw [if_pos rfl] at hK;by_cases c1:k1=0
  ·subst c1;rw [if_pos rfl] at hK;by_cases c2:k2=0
   ·subst c2;rw [if_pos rfl] at hK;obtain ⟨hCU,n0,n1⟩:=jxm hD h.len hl;have Na:=jjb hk1;have Nt:=jjb hk2;unfold tmR tmQ tmI at hK;unfold tmQ tmI at hT;obtain ⟨x,hx⟩:∃x,numQ a=x:=⟨_,rfl⟩;obtain ⟨y,hy⟩:∃x,numQ t=x:=⟨_,rfl⟩;rw [hx] at Na hK hT;rw [hy] at Nt hK hT;have dx:=Na.dzl hla (by omega);have dy:=Nt.dzl hlt (by omega)
    have hDZ:∀q∈ls.map pq,Dz 30 q.1∧Dz 30 q.2:=fun q hq=>by
     obtain ⟨l,hlm,rfl⟩:=List.mem_map.1 hq;obtain ⟨i,hi,rfl⟩:=List.getElem_of_mem hlm;have:=hCU.dz i (by rw [←hCU.len];exact hi);rw [List.getD_eq_getElem?_getD,List.getElem?_eq_getElem hi] at this;exact this
    have di1:=jws dx hDZ;have di2:=jws dy hDZ;obtain ⟨R1,hR1⟩:∃R,jwF x (ls.map pq)=R:=⟨_,rfl⟩;obtain ⟨R2,hR2⟩:∃R,jwF y (ls.map pq)=R:=⟨_,rfl⟩;have HI1:=qh (fun W (hb:Below w.heap.size w W)=>jwv (c:=c) (h.below hb) n0 (by omega) hCU dx (by omega) (by omega) hR1);have HI2:=qh (fun W (hb:Below w.heap.size w W)=>jwv (c:=c) (h.below hb) n0 (by omega) hCU dy (by omega) (by omega) hR2);rw [←Na.eq] at HI1;rw [←Nt.eq] at HI2;rw [hR1] at di1 hK hT;rw [hR2] at di2 hK hT;obtain ⟨p1,o1⟩:=R1;obtain ⟨p2,o2⟩:=R2;dsimp only at di1 di2 hK hT;obtain ⟨j,hj⟩:∃j,Rq.cmpQ x y=j:=⟨_,rfl⟩;have HJ:=qh (fun W=>jko (w:=W) hj dx dy (by omega) (by omega) (by omega) (by omega));rw [←Na.eq,←Nt.eq] at HJ;obtain ⟨lt,hlt2⟩:∃f,decide (j < 0)=f:=⟨_,rfl⟩;have hl2:lt=true↔x < y:=by rw [←hlt2,decide_eq_true_iff,←hj];exact ⟨fun h=>Rq.cmp_neg.1 h,fun h=>Rq.cmp_neg.2 h⟩
    have HSU:=qh (fun W=>jg3 (w:=W) di2 di1 (by omega) (by omega) (by omega) (by omega));obtain ⟨q,hq⟩:∃q,p2 - p1=q:=⟨_,rfl⟩;have dq:=di2.sub di1;unfold QP at HSU;rw [hq] at HSU dq hK hT;obtain ⟨g,hg⟩:∃g,jbq q=g:=⟨_,rfl⟩;have HLA:=qh (fun W=>jjD (w:=W) hg dq (by omega) (by omega));obtain ⟨TQ,hTQ⟩:∃T,tq q=T:=⟨_,rfl⟩;rw [hTQ] at HSU HLA hT;have e1:o1=true→jxn (p1,o1)=tq p1:=fun h=>by rw [h];rfl
    have e2:o2=true→jxn (p2,o2)=tq p2:=fun h=>by rw [h];rfl
    obtain ⟨U1,hU1⟩:∃T,jxn (p1,o1)=T:=⟨_,rfl⟩;obtain ⟨U2,hU2⟩:∃T,jxn (p2,o2)=T:=⟨_,rfl⟩;rw [hU1] at HI1 e1;rw [hU2] at HI2 e2;have HEE:=qh (And.intro e1 e2);have HKK:=qh (And.intro hK (And.intro hT (And.intro hl2 hg)));clear h hn hl hla hlt hD hk1 hk2 hK hT hCU n0 n1 Na Nt hx hy dx dy hDZ di1 di2 hR1 hR2 hj hl2 hq dq hg hTQ e1 e2 hU1 hU2;cases o1 with
    | false=>
      obtain ⟨hK,hT,hl2,hg⟩:=HKK.o;have hK3:K=3:=by simpa using hK.symm
      subst hK3;rw [if_neg (by decide)] at hT;subst hT;clear hK hl2 hg HKK HEE hlt2 HSU HLA;go_enter func8,ntmps8;go_wp2_with (first|(go_at_call 38;(with_reducible refine mo0 (HCD.o _ bi) fun w1 hb1 hc1 hf1 _=> ?_))|(go_at_call 39;(with_reducible show Calls _ _ #[bs a] _ _);(with_reducible refine mo0 (HCA.o _) fun w2 hb2 hc2 hf2 _=> ?_))|(go_at_call 39;(with_reducible show Calls _ _ #[bs t] _ _);(with_reducible refine mo0 (HCT.o _) fun w3 hb3 hc3 hf3 _=> ?_))|(go_at_call 40;(with_reducible show Calls _ _ #[.slice A n c,bs a] _ _);(with_reducible refine mo0 (HI1.o _ bi) fun w4 hb4 hc4 hf4 _=> ?_))|(go_at_call 40;(with_reducible show Calls _ _ #[.slice A n c,bs t] _ _);(with_reducible refine mo0 (HI2.o _ bi) fun w5 hb5 hc5 hf5 _=> ?_))|(go_at_call 41;(with_reducible refine mo0 (HJ.o _) fun w6 hb6 hc6 hf6 _=> ?_)))
      go_ret2;exact ⟨rfl,bi⟩
    | true=>
      cases o2 with
      | false=>
        obtain ⟨hK,hT,hl2,hg⟩:=HKK.o;have hK3:K=3:=by simpa using hK.symm
        subst hK3;rw [if_neg (by decide)] at hT;subst hT;clear hK hl2 hg HKK HEE hlt2 HSU HLA;go_enter func8,ntmps8;go_wp2_with (first|(go_at_call 38;(with_reducible refine mo0 (HCD.o _ bi) fun w1 hb1 hc1 hf1 _=> ?_))|(go_at_call 39;(with_reducible show Calls _ _ #[bs a] _ _);(with_reducible refine mo0 (HCA.o _) fun w2 hb2 hc2 hf2 _=> ?_))|(go_at_call 39;(with_reducible show Calls _ _ #[bs t] _ _);(with_reducible refine mo0 (HCT.o _) fun w3 hb3 hc3 hf3 _=> ?_))|(go_at_call 40;(with_reducible show Calls _ _ #[.slice A n c,bs a] _ _);(with_reducible refine mo0 (HI1.o _ bi) fun w4 hb4 hc4 hf4 _=> ?_))|(go_at_call 40;(with_reducible show Calls _ _ #[.slice A n c,bs t] _ _);(with_reducible refine mo0 (HI2.o _ bi) fun w5 hb5 hc5 hf5 _=> ?_))|(go_at_call 41;(with_reducible refine mo0 (HJ.o _) fun w6 hb6 hc6 hf6 _=> ?_)))
        go_ret2;exact ⟨rfl,bi⟩
      | true=>
        rw [←HEE.o.1 rfl,←HEE.o.2 rfl] at HSU;cases lt with
        | true=>
          obtain ⟨hK,hT,hl2,hg⟩:=HKK.o;rw [if_pos (hl2.1 rfl)] at hK;have hK3:K=11:=by simpa using hK.symm
          subst hK3;rw [if_neg (by decide)] at hT;subst hT;clear hK hl2 hg HKK HEE HSU HLA;go_enter func8,ntmps8;go_wp2_with (first|(go_at_call 38;(with_reducible refine mo0 (HCD.o _ bi) fun w1 hb1 hc1 hf1 _=> ?_))|(go_at_call 39;(with_reducible show Calls _ _ #[bs a] _ _);(with_reducible refine mo0 (HCA.o _) fun w2 hb2 hc2 hf2 _=> ?_))|(go_at_call 39;(with_reducible show Calls _ _ #[bs t] _ _);(with_reducible refine mo0 (HCT.o _) fun w3 hb3 hc3 hf3 _=> ?_))|(go_at_call 40;(with_reducible show Calls _ _ #[.slice A n c,bs a] _ _);(with_reducible refine mo0 (HI1.o _ bi) fun w4 hb4 hc4 hf4 _=> ?_))|(go_at_call 40;(with_reducible show Calls _ _ #[.slice A n c,bs t] _ _);(with_reducible refine mo0 (HI2.o _ bi) fun w5 hb5 hc5 hf5 _=> ?_))|(go_at_call 41;(with_reducible refine mo0 (HJ.o _) fun w6 hb6 hc6 hf6 _=> ?_)))
          go_ret2;exact ⟨rfl,bi⟩
        | false=>
          obtain ⟨hK,hT,hl2,hg⟩:=HKK.o;rw [if_neg (show ¬x < y from fun h=>by have:=hl2.2 h;cases this)] at hK;have hK3:K=g:=by rw [←hg];simpa using hK.symm
          subst hK3;clear hK hl2 hg HKK HEE;by_cases k0:K=0
          ·subst k0;rw [if_pos rfl] at hT;subst hT;go_enter func8,ntmps8;go_wp2_with (first|(go_at_call 38;(with_reducible refine mo0 (HCD.o _ bi) fun w1 hb1 hc1 hf1 _=> ?_))|(go_at_call 39;(with_reducible show Calls _ _ #[bs a] _ _);(with_reducible refine mo0 (HCA.o _) fun w2 hb2 hc2 hf2 _=> ?_))|(go_at_call 39;(with_reducible show Calls _ _ #[bs t] _ _);(with_reducible refine mo0 (HCT.o _) fun w3 hb3 hc3 hf3 _=> ?_))|(go_at_call 40;(with_reducible show Calls _ _ #[.slice A n c,bs a] _ _);(with_reducible refine mo0 (HI1.o _ bi) fun w4 hb4 hc4 hf4 _=> ?_))|(go_at_call 40;(with_reducible show Calls _ _ #[.slice A n c,bs t] _ _);(with_reducible refine mo0 (HI2.o _ bi) fun w5 hb5 hc5 hf5 _=> ?_))|(go_at_call 41;(with_reducible refine mo0 (HJ.o _) fun w6 hb6 hc6 hf6 _=> ?_))|(go_at_call 42;(with_reducible refine mo0 (HSU.o _) fun w7 hb7 hc7 hf7 _=> ?_))|(go_at_call 43;(with_reducible refine mo0 (HLA.o _) fun w8 hb8 hc8 hf8 _=> ?_)))
           go_ret2;exact ⟨rfl,bi⟩
          ·rw [if_neg k0] at hT;subst hT;have z1:(K != 0)=true:=by rw [bne_iff_ne];exact k0
           clear k0;go_enter func8,ntmps8;go_wp2_with (first|(go_at_call 38;(with_reducible refine mo0 (HCD.o _ bi) fun w1 hb1 hc1 hf1 _=> ?_))|(go_at_call 39;(with_reducible show Calls _ _ #[bs a] _ _);(with_reducible refine mo0 (HCA.o _) fun w2 hb2 hc2 hf2 _=> ?_))|(go_at_call 39;(with_reducible show Calls _ _ #[bs t] _ _);(with_reducible refine mo0 (HCT.o _) fun w3 hb3 hc3 hf3 _=> ?_))|(go_at_call 40;(with_reducible show Calls _ _ #[.slice A n c,bs a] _ _);(with_reducible refine mo0 (HI1.o _ bi) fun w4 hb4 hc4 hf4 _=> ?_))|(go_at_call 40;(with_reducible show Calls _ _ #[.slice A n c,bs t] _ _);(with_reducible refine mo0 (HI2.o _ bi) fun w5 hb5 hc5 hf5 _=> ?_))|(go_at_call 41;(with_reducible refine mo0 (HJ.o _) fun w6 hb6 hc6 hf6 _=> ?_))|(go_at_call 42;(with_reducible refine mo0 (HSU.o _) fun w7 hb7 hc7 hf7 _=> ?_))|(go_at_call 43;(with_reducible refine mo0 (HLA.o _) fun w8 hb8 hc8 hf8 _=> ?_)))
           go_ret2;exact ⟨rfl,bi⟩
   ·rw [if_neg c2] at hK;subst hK;rw [if_neg c2] at hT;subst hT;have z1:(k2==0)=false:=by rw [beq_eq_false_iff_ne];exact c2
    have z2:(k2 != 0)=true:=by rw [bne_iff_ne];exact c2
    clear h hn hl hla hlt hD hk1 hk2 c2;go_enter func8,ntmps8;go_wp2_with (first|(go_at_call 38;(with_reducible refine mo0 (HCD.o _ bi) fun w1 hb1 hc1 hf1 _=> ?_))|(go_at_call 39;(with_reducible show Calls _ _ #[bs a] _ _);(with_reducible refine mo0 (HCA.o _) fun w2 hb2 hc2 hf2 _=> ?_))|(go_at_call 39;(with_reducible show Calls _ _ #[bs t] _ _);(with_reducible refine mo0 (HCT.o _) fun w3 hb3 hc3 hf3 _=> ?_)))
    go_ret2;exact ⟨rfl,bi⟩
  ·rw [if_neg c1,if_neg c1] at hK;subst hK;rw [if_neg c1] at hT;subst hT;have z1:(k1==0)=false:=by rw [beq_eq_false_iff_ne];exact c1
   have z2:(k1 != 0)=true:=by rw [bne_iff_ne];exact c1
   clear h hn hl hla hlt hD hk1 hk2 c1;go_enter func8,ntmps8;go_wp2_with (first|(go_at_call 38;(with_reducible refine mo0 (HCD.o _ bi) fun w1 hb1 hc1 hf1 _=> ?_))|(go_at_call 39;(with_reducible show Calls _ _ #[bs a] _ _);(with_reducible refine mo0 (HCA.o _) fun w2 hb2 hc2 hf2 _=> ?_))|(go_at_call 39;(with_reducible show Calls _ _ #[bs t] _ _);(with_reducible refine mo0 (HCT.o _) fun w3 hb3 hc3 hf3 _=> ?_)))
   go_ret2;exact ⟨rfl,bi⟩
 ·rw [if_neg d0] at hK;subst hK;rw [if_neg d0] at hT;subst hT;have z1:(D==0)=false:=by rw [beq_eq_false_iff_ne];exact d0
  have z2:(D != 0)=true:=by rw [bne_iff_ne];exact d0
  clear h hn hl hla hlt hD hk1 hk2 d0;go_enter func8,ntmps8;go_wp2_with (first|(go_at_call 38;(with_reducible refine mo0 (HCD.o _ bi) fun w1 hb1 hc1 hf1 _=> ?_))|(go_at_call 39;(with_reducible show Calls _ _ #[bs a] _ _);(with_reducible refine mo0 (HCA.o _) fun w2 hb2 hc2 hf2 _=> ?_))|(go_at_call 39;(with_reducible show Calls _ _ #[bs t] _ _);(with_reducible refine mo0 (HCT.o _) fun w3 hb3 hc3 hf3 _=> ?_)))
  go_ret2;exact ⟨rfl,bi⟩
end

def ptS (b:List UInt8×List UInt8):Bool:=[b.1,b.2].all fun l=>decide (l.length≤30)
def jxq (n:Nat):Bool:=decide (n≤8) || (decide (64 < n) && decide (n≤70))
section
variable {w:World} {A:Option Addr} {n c:Nat} {ls:List (List UInt8×List UInt8)} {a t:List UInt8}
theorem jx2 {r:Bool} (h:Pv w A n ls) (hn:n < 9223372036854775808) (hr:(ls.all ptS && jxq n)=r):
  Calls prog 4 #[.slice A n c] w fun e w'=>e= .returned (.bool r)∧Below w.heap.size w w':=by
 have H:=qh h;have HN:=qh hn;have HR:=qh hr;clear h hn hr;go_enter func4,ntmps4;go_wp2
 go_loopw [7] (fun u wr=>∃(i:Nat),u= .int .i64 (i:Int)∧i≤n∧Below w.heap.size w wr∧((ls.drop i).all ptS && jxq n)=r) (fun u _=>n - (intOf u).toNat)
 case atStart=>exact ⟨0,rfl,Nat.zero_le _,bi,HR.o⟩
 case round=>
  obtain ⟨i,rfl,hin,hb,hc⟩:=hrel;have _:=bm hb;have hnn:=HN.o;by_cases hi:i < n
  ·have q0:decide ((i:Int) < (n:Int))=true:=by simp;exact hi
   have q9:decide (i < n)=true:=by simpa using hi
   obtain ⟨b,o,rfl,hbl,hcell⟩:=(H.o.below hb).at_ (by omega);obtain ⟨y0,y1⟩:=hcell i hi;have hil:i < ls.length:=by rw [H.o.len];exact hi
   rw [jd5 (d:=([],[])) hil,List.all_cons,Bool.and_assoc] at hc;obtain ⟨⟨x0,x1⟩,hx⟩:∃x,ls.getD i ([],[])=x:=⟨_,rfl⟩;rw [hx] at y0 y1 hc;dsimp only at y0 y1;obtain ⟨f,hf⟩:∃f,ptS (x0,x1)=f:=⟨_,rfl⟩;rw [hf] at hc
   have HF:Hd (Calls prog 5 #[.slice (some ⟨wr.heap.size+1,0,none⟩) 2 2] ((wr.alloc (.cells #[bs x0,bs x1] 35)).alloc (.cells #[bs x0,bs x1] 23)) fun e w'=>e= .returned (.bool f)∧Below ((wr.alloc (.cells #[bs x0,bs x1] 35)).alloc (.cells #[bs x0,bs x1] 23)).heap.size ((wr.alloc (.cells #[bs x0,bs x1] 35)).alloc (.cells #[bs x0,bs x1] 23)) w'):=qh (by
    have h:=Sv.two (wr.alloc (.cells #[bs x0,bs x1] 35)) 23 x0 x1;rw [World.size_alloc] at h
    exact jgr h (by omega) hf)
   have HI:=qh hi;cases f with
   | true=>
     have HC:=qh (show ((ls.drop (i+1)).all ptS && jxq n)=r by simpa using hc);clear hc hf hx hil hcell;go_wp2_with (go_at_call 5;(with_reducible refine mo0 (HF.o) fun w1 hb1 hc1 hf1 _=> ?_))
     exact ⟨⟨i+1,by simp,HI.o,ja0 hb bi,HC.o⟩,by have:=HI.o;simp [intOf];omega⟩
   | false=>
     have hr:r=false:=by simpa using hc.symm
     subst hr;clear hc hf hx hil hcell HR;go_wp2_with (go_at_call 5;(with_reducible refine mo0 (HF.o) fun w1 hb1 hc1 hf1 _=> ?_))
     go_ret;exact ⟨rfl,ja0 hb bi⟩
  ·rw [List.drop_eq_nil_of_le (by rw [H.o.len];omega)] at hc;have q0:decide (i < n)=false:=by simp;omega
   have hc:jxq n=r:=by simpa using hc
   unfold jxq at hc;obtain ⟨f1,p1⟩:∃f,decide ((n:Int)≤8)=f:=⟨_,rfl⟩;obtain ⟨f2,p2⟩:∃f,decide ((64:Int) < (n:Int))=f:=⟨_,rfl⟩;obtain ⟨f3,p3⟩:∃f,decide ((n:Int)≤70)=f:=⟨_,rfl⟩;have e1:decide (n≤8)=f1:=by rw [←p1,decide_eq_decide];omega
   have e2:decide (64 < n)=f2:=by rw [←p2,decide_eq_decide];omega
   have e3:decide (n≤70)=f3:=by rw [←p3,decide_eq_decide];omega
   rw [e1,e2,e3] at hc;subst hc;clear e1 e2 e3 hi hnn HR;cases f1 <;> cases f2 <;> cases f3 <;> (go_wp2;go_ret;exact ⟨rfl,hb⟩)
theorem jxa {K:Int} {T:List UInt8} (hE:Env w) (h:Pv w A n ls) (hn:n≤70) (hcp:n≤c) (hl:∀l∈ls,l.1.length≤30∧l.2.length≤30) (hla:a.length≤30) (hlt:t.length≤30) (hK:tmK ls n a t=K) (hT:tmT ls n a t=T):
  Calls prog 7 #[.slice A n c,bs a,bs t] w fun e w'=>e= .returned (.tuple #[bs T, .int .i64 K])∧Below w.heap.size w w':=by
 have hl2:∀l∈ls,l.1.length < 4294967281∧l.2.length < 4294967281:=fun l hm=>by have:=hl l hm;omega
 by_cases hc:cvE ls n=0
 ·have hN:=jwE hc;have h0:=(jwO hc).1;refine jx6 hE h h0.1 (by omega) hcp hl2 hla hlt hc hN (fun q hq=> ?_) hK hT;obtain ⟨l,hlm,rfl⟩:=List.mem_map.1 hq;obtain ⟨i,hi,rfl⟩:=List.getElem_of_mem hlm;have:=hN i (by rw [←h.len];exact hi);rw [List.getD_eq_getElem?_getD,List.getElem?_eq_getElem hi] at this;have l:=hl _ hlm;exact ⟨this.1.dzl l.1 (by omega),this.2.dzl l.2 (by omega)⟩
 ·have hd:jx5 ls n=cvE ls n:=by unfold jx5;rw [if_neg hc]
  have hk:tmK ls n a t=cvE ls n:=by unfold tmK;rw [hd,if_neg hc]
  have hT2:T=[]:=by rw [←hT];unfold tmT;rw [hk,if_neg hc]
  subst hT2;exact jwT hE h (by omega) hcp hl2 (hk.symm.trans hK) (by rw [←hK,hk];exact hc)
theorem jwU (hE:Env w) (h:Pv w A n ls) (hn:n < 9223372036854775808∧n≤c):
  Calls prog 3 #[.slice A n c,bs a,bs t] w fun e w'=>e= .returned (.bool true)∧Below w.heap.size w w':=by
 have HA:=qh (fun W (hb:Below w.heap.size w W)=>hE.awake6 hb);obtain ⟨f1,hf1⟩:∃f,(ls.all ptS && jxq n)=f:=⟨_,rfl⟩;obtain ⟨f2,hf2⟩:∃f,([a,t].all fun l=>decide (l.length≤30))=f:=⟨_,rfl⟩;have HS:=qh (fun W (hb:Below w.heap.size w W)=>jx2 (c:=c) (h.below hb) hn.1 hf1);have HF:Hd (∀W:World,Calls prog 5 #[.slice (some ⟨W.heap.size,0,none⟩) 2 2] (W.alloc (.cells #[bs a,bs t] 23)) fun e w'=>e= .returned (.bool f2)∧Below (W.alloc (.cells #[bs a,bs t] 23)).heap.size (W.alloc (.cells #[bs a,bs t] 23)) w'):=qh (fun W=>jgr (Sv.two W 23 a t) (by omega) hf2);cases f1 with
 | false=>
   clear hE h hn hf1 hf2;go_enter func3,ntmps3;go_wp2_with (first|(go_at_call 4;(with_reducible refine mo0 (HS.o _ bi) fun w1 hb1 hc1 hf1 _=> ?_))|(go_at_call 5;(with_reducible refine mo0 (HF.o _) fun w2 hb2 hc2 hf2 _=> ?_))|(go_at_call 6;(with_reducible refine mo0 (HA.o _ bi) fun w3 hb3 hc3 hf3 _=> ?_)))
   go_ret;exact ⟨rfl,bi⟩
 | true=>
   cases f2 with
   | false=>
     clear hE h hn hf1 hf2;go_enter func3,ntmps3;go_wp2_with (first|(go_at_call 4;(with_reducible refine mo0 (HS.o _ bi) fun w1 hb1 hc1 hf1 _=> ?_))|(go_at_call 5;(with_reducible refine mo0 (HF.o _) fun w2 hb2 hc2 hf2 _=> ?_))|(go_at_call 6;(with_reducible refine mo0 (HA.o _ bi) fun w3 hb3 hc3 hf3 _=> ?_)))
     go_ret;exact ⟨rfl,bi⟩
   | true=>
     rw [Bool.and_eq_true] at hf1;have hl:∀l∈ls,l.1.length≤30∧l.2.length≤30:=fun l hm=>by simpa [ptS] using List.all_eq_true.1 hf1.1 l hm
     have hlab:a.length≤30∧t.length≤30:=by simpa using hf2
     have h70:n≤70:=by have:=hf1.2;unfold jxq at this;simp at this;omega
     obtain ⟨K,hK⟩:∃K,tmK ls n a t=K:=⟨_,rfl⟩;obtain ⟨T,hT⟩:∃K,tmT ls n a t=K:=⟨_,rfl⟩;have HT1:=qh (fun W (hb:Below w.heap.size w W)=>jxa (c:=c) (hE.below hb) (h.below hb) h70 hn.2 hl hlab.1 hlab.2 hK hT);have HT2:=qh (fun W (hb:Below w.heap.size w W)=>jxf (c:=c) (h.below hb) (by omega) hl hlab.1 hlab.2 hK hT);have hkt:K≠0→T=[]:=fun h0=>by rw [←hT];unfold tmT;rw [hK,if_neg h0]
     have HKT:=qh hkt;clear hE h hn hf1 hf2 hl hlab h70 hK hT hkt;go_enter func3,ntmps3;go_wp2_with (first|(go_at_call 4;(with_reducible refine mo0 (HS.o _ bi) fun w1 hb1 hc1 hf1 _=> ?_))|(go_at_call 5;(with_reducible refine mo0 (HF.o _) fun w2 hb2 hc2 hf2 _=> ?_))|(go_at_call 6;(with_reducible refine mo0 (HA.o _ bi) fun w3 hb3 hc3 hf3 _=> ?_))|(go_at_call 7;(with_reducible refine mo0 (HT1.o _ bi) fun w4 hb4 hc4 hf4 _=> ?_))|(go_at_call 8;(with_reducible refine mo0 (HT2.o _ bi) fun w5 hb5 hc5 hf5 _=> ?_))|(go_at_call 9;(with_reducible refine mo0 (jgi (x:=T) (want:=T) (k:=K) HKT.o (fun _=>rfl)) fun w6 hb6 hc6 hf6 _=> ?_)))
     go_ret;exact ⟨rfl,bi⟩
end
end Go.Proofs.YtcophhhpgmilfaaGreatDoor
