/- Parts. -/
import Derived.Test.YtpkcjfpgemdfdaaGreatDoorHsG
set_option linter.all false
set_option maxRecDepth 100000
set_option maxHeartbeats 8000000
namespace Go.Proofs.YtpkcjfpgemdfdaaGreatDoor
open Go Go.RowKit Go.Proofs.Tryz

structure ArG (n:Nat) (ls:List (List UInt8×List UInt8)) (a b d:List UInt8) (x y z:Rat):Prop where
 all:ls.all ptF=true
 few:n≤8
 la:a.length≤30∧b.length≤30∧d.length≤30
 ck:chk a=0∧chk b=0∧chk d=0
 num:IsNum a x∧IsNum b y∧IsNum d z
 lo:((ls.map pq).getD 0 (0,0)).1≤x
 xy:x≤y
 yz:y≤z
 hi:z≤((ls.map pq).getD (n - 1) (0,0)).1
section
variable {w:World} {A:Option Addr} {n c:Nat} {ls:List (List UInt8×List UInt8)} {a b d:List UInt8}
set_option maxHeartbeats 64000000 in
theorem jzs (hE:Env w) (h:Pv w A n ls) (hn:n < 9223372036854775808∧n≤c):
  (∃x y z,CvG c n ls∧ArG n ls a b d x y z)∨Calls prog 3 #[.slice A n c, .agg #[bs a,bs b,bs d]] w fun e w'=>e= .returned (.bool true)∧Below w.heap.size w w':=by
 have HA:=qh (fun W (hb:Below w.heap.size w W)=>hE.awake6 hb);obtain ⟨f1,hf1⟩:∃f,(ls.all ptF && (decide (n≤8) && decide (cvE ls n=0)))=f:=⟨_,rfl⟩;obtain ⟨f2,hf2⟩:∃f,([a,b,d].all fun l=>decide (l.length≤30))=f:=⟨_,rfl⟩;have HS:=qh (fun W (hb:Below w.heap.size w W)=>jzB (c:=c) (h.below hb) hn.1 hf1);obtain ⟨T,hT⟩:∃T,T=24:=⟨_,rfl⟩;have HF:=qh (fun W (hb:Below (w.alloc (.cells #[bs a,bs b,bs d] 24)).heap.size (w.alloc (.cells #[bs a,bs b,bs d] 24)) W)=>jgr (c:=3) ((Sv.three w 24 a b d).below hb) (by omega) hf2);clear hT;cases f1 with
 | false=>
   right
   clear hE h hn hf1 hf2;go_enter func3,ntmps3;go_wp2_with (first|(go_at_call 9;(with_reducible refine mo0 (HA.o _ bi) fun w9 hb9 hc9 hf9 _=> ?_))|((go_at_call 4;(with_reducible refine mo0 (HS.o _ bi) fun w1 hb1 hc1 hf1 _=> ?_));have y1_0:=zlt (w.heap.size) hb1))
   go_ret;exact ⟨rfl,bi⟩
 | true=>
   have hf3:=hf1;simp only [Bool.and_eq_true,decide_eq_true_eq] at hf3;obtain ⟨hall,h8,hcv⟩:=hf3;cases f2 with
   | false=>
     right
     clear hE h hn hf1 hf2 hall h8 hcv;go_enter func3,ntmps3;go_wp2_with (first|(go_at_call 9;(with_reducible refine mo0 (HA.o _ bi) fun w9 hb9 hc9 hf9 _=> ?_))|((go_at_call 4;(with_reducible refine mo0 (HS.o _ bi) fun w1 hb1 hc1 hf1 _=> ?_));have y1_0:=zlt (w.heap.size) hb1)|((go_at_call 5;(with_reducible refine mo0 (HF.o _ bi) fun w2 hb2 hc2 hf2 _=> ?_));have y2_0:=zlt (w.heap.size) hb2))
     go_ret;exact ⟨rfl,bi⟩
   | true=>
     have hf4:=hf2;simp at hf4;obtain ⟨K,hK⟩:∃K,jar chk [a,b,d]=K:=⟨_,rfl⟩
     have HR:=qh (fun W (hb:Below (w.alloc (.cells #[bs a,bs b,bs d] 24)).heap.size (w.alloc (.cells #[bs a,bs b,bs d] 24)) W)=>jz2 (c:=3) ((Sv.three w 24 a b d).below hb) (by omega) (fun l hm=>by
      simp at hm
      rcases hm with rfl|rfl|rfl <;> omega) hK)
     by_cases hK0:K=0
     ·subst hK0;have hch:=jdI hK;have hc1:chk a=0:=hch a (by simp);have hc2:chk b=0:=hch b (by simp);have hc3:chk d=0:=hch d (by simp);obtain ⟨x,Nx⟩:=jjL.1 hc1;obtain ⟨y,Ny⟩:=jjL.1 hc2;obtain ⟨z,Nz⟩:=jjL.1 hc3
      have hg:CvG c n ls:=CvG.of h.len hcv hn.2 (fun l hm=>by
       have:=List.all_eq_true.1 hall l hm;unfold ptF at this;simp at this
       omega)
      obtain ⟨g1,hg1⟩:∃g,(decide (((ls.map pq).getD 0 (0,0)).1≤x) && decide (x≤((ls.map pq).getD (n - 1) (0,0)).1))=g:=⟨_,rfl⟩;obtain ⟨g2,hg2⟩:∃g,(decide (((ls.map pq).getD 0 (0,0)).1≤y) && decide (y≤((ls.map pq).getD (n - 1) (0,0)).1))=g:=⟨_,rfl⟩;obtain ⟨g3,hg3⟩:∃g,(decide (((ls.map pq).getD 0 (0,0)).1≤z) && decide (z≤((ls.map pq).getD (n - 1) (0,0)).1))=g:=⟨_,rfl⟩;have H1:=qh (fun W (hb:Below w.heap.size w W)=>jyO (c:=c) (h.below hb) hg hall Nx (by omega) hg1);have H2:=qh (fun W (hb:Below w.heap.size w W)=>jyO (c:=c) (h.below hb) hg hall Ny (by omega) hg2);have H3:=qh (fun W (hb:Below w.heap.size w W)=>jyO (c:=c) (h.below hb) hg hall Nz (by omega) hg3);obtain ⟨j,hj⟩:∃j,Rq.cmpQ x y=j:=⟨_,rfl⟩;obtain ⟨k,hk⟩:∃j,Rq.cmpQ y z=j:=⟨_,rfl⟩;have HC:=qh (fun W=>jyL (w:=W) hj Nx Ny (by omega) (by omega));have HD:=qh (fun W=>jyL (w:=W) hk Ny Nz (by omega) (by omega));cases g1 with
      | false=>
        right
        clear hE h hn hf1 hf2 hall h8 hcv hf4 hK hch hc1 hc2 hc3 Nx Ny Nz hg hg1 hg2 hg3 hj hk;go_enter func3,ntmps3;go_wp2_with (first|(go_at_call 9;(with_reducible refine mo0 (HA.o _ bi) fun w9 hb9 hc9 hf9 _=> ?_))|((go_at_call 4;(with_reducible refine mo0 (HS.o _ bi) fun w1 hb1 hc1 hf1 _=> ?_));have y1_0:=zlt (w.heap.size) hb1)|((go_at_call 5;(with_reducible refine mo0 (HF.o _ bi) fun w2 hb2 hc2 hf2 _=> ?_));have y2_0:=zlt (w.heap.size) hb2)|((go_at_call 6;(with_reducible refine mo0 (HR.o _ bi) fun w3 hb3 hc3 hf3 _=> ?_));have y3_0:=zlt (w.heap.size) hb3)|((go_at_call 7;(with_reducible refine mo0 (H1.o _ bi) fun w4 hb4 hc4 hf4 _=> ?_));have y4_0:=zlt (w.heap.size) hb4)|((go_at_call 7;(with_reducible refine mo0 (H2.o _ bi) fun w5 hb5 hc5 hf5 _=> ?_));have y5_0:=zlt (w.heap.size) hb5)|((go_at_call 7;(with_reducible refine mo0 (H3.o _ bi) fun w6 hb6 hc6 hf6 _=> ?_));have y6_0:=zlt (w.heap.size) hb6)|((go_at_call 8;(with_reducible refine mo0 (HC.o _) fun w7 hb7 hc7 hf7 _=> ?_));have y7_0:=zlt (w.heap.size) hb7)|((go_at_call 8;(with_reducible refine mo0 (HD.o _) fun w8 hb8 hc8 hf8 _=> ?_));have y8_0:=zlt (w.heap.size) hb8))
        go_ret;exact ⟨rfl,bi⟩
      | true=>
        cases g2 with
        | false=>
          right
          clear hE h hn hf1 hf2 hall h8 hcv hf4 hK hch hc1 hc2 hc3 Nx Ny Nz hg hg1 hg2 hg3 hj hk;go_enter func3,ntmps3;go_wp2_with (first|(go_at_call 9;(with_reducible refine mo0 (HA.o _ bi) fun w9 hb9 hc9 hf9 _=> ?_))|((go_at_call 4;(with_reducible refine mo0 (HS.o _ bi) fun w1 hb1 hc1 hf1 _=> ?_));have y1_0:=zlt (w.heap.size) hb1)|((go_at_call 5;(with_reducible refine mo0 (HF.o _ bi) fun w2 hb2 hc2 hf2 _=> ?_));have y2_0:=zlt (w.heap.size) hb2)|((go_at_call 6;(with_reducible refine mo0 (HR.o _ bi) fun w3 hb3 hc3 hf3 _=> ?_));have y3_0:=zlt (w.heap.size) hb3)|((go_at_call 7;(with_reducible refine mo0 (H1.o _ bi) fun w4 hb4 hc4 hf4 _=> ?_));have y4_0:=zlt (w.heap.size) hb4)|((go_at_call 7;(with_reducible refine mo0 (H2.o _ bi) fun w5 hb5 hc5 hf5 _=> ?_));have y5_0:=zlt (w.heap.size) hb5)|((go_at_call 7;(with_reducible refine mo0 (H3.o _ bi) fun w6 hb6 hc6 hf6 _=> ?_));have y6_0:=zlt (w.heap.size) hb6)|((go_at_call 8;(with_reducible refine mo0 (HC.o _) fun w7 hb7 hc7 hf7 _=> ?_));have y7_0:=zlt (w.heap.size) hb7)|((go_at_call 8;(with_reducible refine mo0 (HD.o _) fun w8 hb8 hc8 hf8 _=> ?_));have y8_0:=zlt (w.heap.size) hb8))
          go_ret;exact ⟨rfl,bi⟩
        | true=>
          cases g3 with
          | false=>
            right
            clear hE h hn hf1 hf2 hall h8 hcv hf4 hK hch hc1 hc2 hc3 Nx Ny Nz hg hg1 hg2 hg3 hj hk;go_enter func3,ntmps3;go_wp2_with (first|(go_at_call 9;(with_reducible refine mo0 (HA.o _ bi) fun w9 hb9 hc9 hf9 _=> ?_))|((go_at_call 4;(with_reducible refine mo0 (HS.o _ bi) fun w1 hb1 hc1 hf1 _=> ?_));have y1_0:=zlt (w.heap.size) hb1)|((go_at_call 5;(with_reducible refine mo0 (HF.o _ bi) fun w2 hb2 hc2 hf2 _=> ?_));have y2_0:=zlt (w.heap.size) hb2)|((go_at_call 6;(with_reducible refine mo0 (HR.o _ bi) fun w3 hb3 hc3 hf3 _=> ?_));have y3_0:=zlt (w.heap.size) hb3)|((go_at_call 7;(with_reducible refine mo0 (H1.o _ bi) fun w4 hb4 hc4 hf4 _=> ?_));have y4_0:=zlt (w.heap.size) hb4)|((go_at_call 7;(with_reducible refine mo0 (H2.o _ bi) fun w5 hb5 hc5 hf5 _=> ?_));have y5_0:=zlt (w.heap.size) hb5)|((go_at_call 7;(with_reducible refine mo0 (H3.o _ bi) fun w6 hb6 hc6 hf6 _=> ?_));have y6_0:=zlt (w.heap.size) hb6)|((go_at_call 8;(with_reducible refine mo0 (HC.o _) fun w7 hb7 hc7 hf7 _=> ?_));have y7_0:=zlt (w.heap.size) hb7)|((go_at_call 8;(with_reducible refine mo0 (HD.o _) fun w8 hb8 hc8 hf8 _=> ?_));have y8_0:=zlt (w.heap.size) hb8))
            go_ret;exact ⟨rfl,bi⟩
          | true=>
            simp only [Bool.and_eq_true,decide_eq_true_eq] at hg1 hg2 hg3;by_cases hxy:x≤y
            ·have u1:decide (0 < j)=false:=by rw [decide_eq_false_iff_not,←hj];exact fun e=>Rat.not_lt.2 hxy (Rq.cmp_pos.1 e)
             by_cases hyz:y≤z
             ·left
              exact ⟨x,y,z,hg,hall,h8,by omega,⟨hc1,hc2,hc3⟩,⟨Nx,Ny,Nz⟩,hg1.1,hxy,hyz,hg3.2⟩
             ·right
              have u2:decide (0 < k)=true:=by rw [decide_eq_true_iff,←hk];exact Rq.cmp_pos.2 (Rat.not_le.1 hyz)
              clear hE h hn hf1 hf2 hall h8 hcv hf4 hK hch hc1 hc2 hc3 Nx Ny Nz hg hg1 hg2 hg3 hj hk hxy hyz;go_enter func3,ntmps3;go_wp2_with (first|(go_at_call 9;(with_reducible refine mo0 (HA.o _ bi) fun w9 hb9 hc9 hf9 _=> ?_))|((go_at_call 4;(with_reducible refine mo0 (HS.o _ bi) fun w1 hb1 hc1 hf1 _=> ?_));have y1_0:=zlt (w.heap.size) hb1)|((go_at_call 5;(with_reducible refine mo0 (HF.o _ bi) fun w2 hb2 hc2 hf2 _=> ?_));have y2_0:=zlt (w.heap.size) hb2)|((go_at_call 6;(with_reducible refine mo0 (HR.o _ bi) fun w3 hb3 hc3 hf3 _=> ?_));have y3_0:=zlt (w.heap.size) hb3)|((go_at_call 7;(with_reducible refine mo0 (H1.o _ bi) fun w4 hb4 hc4 hf4 _=> ?_));have y4_0:=zlt (w.heap.size) hb4)|((go_at_call 7;(with_reducible refine mo0 (H2.o _ bi) fun w5 hb5 hc5 hf5 _=> ?_));have y5_0:=zlt (w.heap.size) hb5)|((go_at_call 7;(with_reducible refine mo0 (H3.o _ bi) fun w6 hb6 hc6 hf6 _=> ?_));have y6_0:=zlt (w.heap.size) hb6)|((go_at_call 8;(with_reducible refine mo0 (HC.o _) fun w7 hb7 hc7 hf7 _=> ?_));have y7_0:=zlt (w.heap.size) hb7)|((go_at_call 8;(with_reducible refine mo0 (HD.o _) fun w8 hb8 hc8 hf8 _=> ?_));have y8_0:=zlt (w.heap.size) hb8))
              go_ret;exact ⟨rfl,bi⟩
            ·right
             have u1:decide (0 < j)=true:=by rw [decide_eq_true_iff,←hj];exact Rq.cmp_pos.2 (Rat.not_le.1 hxy)
             clear hE h hn hf1 hf2 hall h8 hcv hf4 hK hch hc1 hc2 hc3 Nx Ny Nz hg hg1 hg2 hg3 hj hk hxy;go_enter func3,ntmps3;go_wp2_with (first|(go_at_call 9;(with_reducible refine mo0 (HA.o _ bi) fun w9 hb9 hc9 hf9 _=> ?_))|((go_at_call 4;(with_reducible refine mo0 (HS.o _ bi) fun w1 hb1 hc1 hf1 _=> ?_));have y1_0:=zlt (w.heap.size) hb1)|((go_at_call 5;(with_reducible refine mo0 (HF.o _ bi) fun w2 hb2 hc2 hf2 _=> ?_));have y2_0:=zlt (w.heap.size) hb2)|((go_at_call 6;(with_reducible refine mo0 (HR.o _ bi) fun w3 hb3 hc3 hf3 _=> ?_));have y3_0:=zlt (w.heap.size) hb3)|((go_at_call 7;(with_reducible refine mo0 (H1.o _ bi) fun w4 hb4 hc4 hf4 _=> ?_));have y4_0:=zlt (w.heap.size) hb4)|((go_at_call 7;(with_reducible refine mo0 (H2.o _ bi) fun w5 hb5 hc5 hf5 _=> ?_));have y5_0:=zlt (w.heap.size) hb5)|((go_at_call 7;(with_reducible refine mo0 (H3.o _ bi) fun w6 hb6 hc6 hf6 _=> ?_));have y6_0:=zlt (w.heap.size) hb6)|((go_at_call 8;(with_reducible refine mo0 (HC.o _) fun w7 hb7 hc7 hf7 _=> ?_));have y7_0:=zlt (w.heap.size) hb7)|((go_at_call 8;(with_reducible refine mo0 (HD.o _) fun w8 hb8 hc8 hf8 _=> ?_));have y8_0:=zlt (w.heap.size) hb8))
             go_ret;exact ⟨rfl,bi⟩
     ·right
      have q1:(K != 0)=true:=by rw [bne_iff_ne];exact hK0
      clear hE h hn hf1 hf2 hall h8 hcv hf4 hK hK0;go_enter func3,ntmps3;go_wp2_with (first|(go_at_call 9;(with_reducible refine mo0 (HA.o _ bi) fun w9 hb9 hc9 hf9 _=> ?_))|((go_at_call 4;(with_reducible refine mo0 (HS.o _ bi) fun w1 hb1 hc1 hf1 _=> ?_));have y1_0:=zlt (w.heap.size) hb1)|((go_at_call 5;(with_reducible refine mo0 (HF.o _ bi) fun w2 hb2 hc2 hf2 _=> ?_));have y2_0:=zlt (w.heap.size) hb2)|((go_at_call 6;(with_reducible refine mo0 (HR.o _ bi) fun w3 hb3 hc3 hf3 _=> ?_));have y3_0:=zlt (w.heap.size) hb3))
      go_ret;exact ⟨rfl,bi⟩
end

theorem Sv.four (w:World) (t:TypeId) (k l m j:List UInt8):Sv (w.alloc (.cells #[bs k,bs l,bs m,bs j] t)) (some ⟨w.heap.size,0,none⟩) 4 [k,l,m,j]:=
 ⟨rfl,fun _=>⟨_,0,rfl,by simp,fun i hi=>by
   rcases i with _ | _ | _ | _|i
   ·simp
   ·simp
   ·simp
   ·simp
   ·omega⟩⟩
theorem jzZ (x y:Rat):(jws x y=x∨jws x y=y)∧jws x y≤x∧jws x y≤y:=by
 unfold jws;split <;> grind
theorem jzW (x y:Rat):(jzH x y=x∨jzH x y=y)∧x≤jzH x y∧y≤jzH x y:=by
 unfold jzH;split <;> grind
section
variable {w:World} {A:Option Addr} {n c:Nat} {ls:List (List UInt8×List UInt8)} {a b d:List UInt8} {x y z:Rat}
theorem jA7 (hg:CvG c n ls) (hall:ls.all ptF=true):∀i,i < (ls.map pq).length→Dz 12 ((ls.map pq).getD i (0,0)).1∧Dz 12 ((ls.map pq).getD i (0,0)).2:=fun i hi=>by
 rw [List.length_map] at hi;rw [jyT hi];have N:=hg.num i (by rw [←hg.len];exact hi);have:=List.all_eq_true.1 hall (ls.getD i ([],[])) (by rw [List.getD_eq_getElem?_getD,List.getElem?_eq_getElem hi];exact List.getElem_mem hi);unfold ptF at this;simp at this;exact ⟨N.1.dzl this.1 (by omega),N.2.dzl this.2 (by omega)⟩
structure ArF (qs:List (Rat×Rat)) (x y z s1 s2 s3 v u:Rat):Prop where
 e1:arQ qs x y=s1
 e2:arQ qs y z=s2
 e3:arQ qs x z=s3
 ev:atQ y qs=v
 eu:jzO v qs=(u,true)
 sum:s1+s2=s3
 d1:Dz 600 s1
 d2:Dz 600 s2
 d3:Dz 600 s3
 dv:Dz 110 v
 du:Dz 220 u
 uy:u≤y
 ulo:(qs.getD 0 (0,0)).1≤u
 at_:atQ u qs=v
 h1:ArH qs x y
 h2:ArH qs y z
 h3:ArH qs x z
 bnd:∀m M:Rat,(∀i,i < qs.length→m≤(qs.getD i (0,0)).2∧(qs.getD i (0,0)).2≤M)→(z - x)*m≤s3∧s3≤(z - x)*M∧m≤v∧v≤M
theorem jAd (hg:CvG c n ls) (G:ArG n ls a b d x y z):∃s1 s2 s3 v u,ArF (ls.map pq) x y z s1 s2 s3 v u:=by
 have hd:=jA7 hg G.all;have hlen:(ls.map pq).length=n:=by rw [List.length_map];exact hg.len
 have hhi:=G.hi;have hlo:=G.lo;rw [←hlen] at hhi;have hp:0 < (ls.map pq).length:=by rw [hlen];exact hg.pos
 have hn8:(ls.map pq).length≤8:=by rw [hlen];exact G.few
 have hu:=hg.ups;obtain ⟨qs,hq⟩:∃l,ls.map pq=l:=⟨_,rfl⟩;rw [hq] at hd hhi hp hn8 hlo hu ⊢;have dx:Dz 30 x:=G.num.1.dzl G.la.1 (by omega);have dy:Dz 30 y:=G.num.2.1.dzl G.la.2.1 (by omega);have dz:Dz 30 z:=G.num.2.2.dzl G.la.2.2 (by omega);have h1:ArH qs x y:=⟨hu,hp,hlo,G.xy,Rat.le_trans G.yz hhi⟩;have h2:ArH qs y z:=⟨hu,hp,Rat.le_trans hlo G.xy,G.yz,hhi⟩;have h3:ArH qs x z:=⟨hu,hp,hlo,Rat.le_trans G.xy G.yz,hhi⟩;have dv:=jzp hu hp h2.lo h1.hi dy hd;obtain ⟨u,k1,k2,k3,k4,k5⟩:=jzC (x:=y) hu hp h2.lo h1.hi;refine ⟨_,_,_,_,u,rfl,rfl,rfl,rfl,k1, ?_,jzr h1 hd dx dy hn8,jzr h2 hd dy dz hn8,jzr h3 hd dx dz hn8,dv,k5 _ dv rfl hd,k3,k2,k4,h1,h2,h3,fun m M hb=> ?_⟩
 ·rw [(jyR h1).1,(jyR h2).1,(jyR h3).1];grind
 ·have e:=(jyR h3).2.1 m M hb;have f:=jyI hu hp h2.lo h1.hi hb;rw [Rat.mul_comm m,Rat.mul_comm M] at e;exact ⟨e.1,e.2,f.1,f.2⟩
end

theorem Dz.tla {k:Nat} {x:Rat} (h:Dz k x) (hk:k≤600):(tq x).length≤9000:=by
 have:=jur (h.mono (m:=k+1) (by omega)) (by omega);omega
theorem jyM {α:Type} {f:α→Int}:∀{l:List α},(∀x∈l,f x=0)→jar f l=0
 | [],_=>rfl
 | x::r,h=>by rw [jar,if_pos (h x (List.mem_cons_self ..)),jyM (fun y hy=>h y (List.mem_cons_of_mem _ hy))]
theorem jAg {qs:List (Rat×Rat)} (hu:Ups qs) {i:Nat} (hi:i < qs.length):(qs.getD 0 (0,0)).1≤(qs.getD i (0,0)).1∧(qs.getD i (0,0)).1≤(qs.getD (qs.length - 1) (0,0)).1:=by
 constructor
 ·rcases Nat.eq_zero_or_pos i with e|e
  ·rw [e];exact Rat.le_refl
  ·exact Rat.le_of_lt (hu.mono e hi)
 ·rcases Nat.lt_or_ge i (qs.length - 1) with e|e
  ·exact Rat.le_of_lt (hu.mono e (by omega))
  ·rw [show i=qs.length - 1 by omega];exact Rat.le_refl
section
variable {w:World} {A:Option Addr} {n c:Nat} {ls:List (List UInt8×List UInt8)} {a b d:List UInt8} {x y z:Rat}
set_option maxHeartbeats 64000000 in
theorem jzk (hE:Env w) (h:Pv w A n ls) (hn:n < 9223372036854775808∧n≤c) (hg:CvG c n ls) (G:ArG n ls a b d x y z):
  Calls prog 3 #[.slice A n c, .agg #[bs a,bs b,bs d]] w fun e w'=>e= .returned (.bool true)∧Below w.heap.size w w':=by
 obtain ⟨s1,s2,s3,v,u,F⟩:=jAd hg G;have hd:=jA7 hg G.all;have hlen:(ls.map pq).length=n:=by rw [List.length_map];exact hg.len
 have HA:=qh (fun W (hb:Below w.heap.size w W)=>hE.awake6 hb);have HS:=qh (fun W (hb:Below w.heap.size w W)=>jzB (c:=c) (r:=true) (h.below hb) hn.1 (by simp [G.all,G.few,hg.cv]));have hha:x≤((ls.map pq).getD (n - 1) (0,0)).1:=Rat.le_trans G.xy (Rat.le_trans G.yz G.hi);have hhb:y≤((ls.map pq).getD (n - 1) (0,0)).1:=Rat.le_trans G.yz G.hi;have hlb:((ls.map pq).getD 0 (0,0)).1≤y:=Rat.le_trans G.lo G.xy;have hlz:((ls.map pq).getD 0 (0,0)).1≤z:=Rat.le_trans hlb G.yz;have H1:=qh (fun W (hb:Below w.heap.size w W)=>jyO (c:=c) (r:=true) (h.below hb) hg G.all G.num.1 G.la.1 (by rw [decide_eq_true G.lo,decide_eq_true hha];rfl));have H2:=qh (fun W (hb:Below w.heap.size w W)=>jyO (c:=c) (r:=true) (h.below hb) hg G.all G.num.2.1 G.la.2.1 (by rw [decide_eq_true hlb,decide_eq_true hhb];rfl));have H3:=qh (fun W (hb:Below w.heap.size w W)=>jyO (c:=c) (r:=true) (h.below hb) hg G.all G.num.2.2 G.la.2.2 (by rw [decide_eq_true hlz,decide_eq_true G.hi];rfl));obtain ⟨j,hj⟩:∃j,Rq.cmpQ x y=j:=⟨_,rfl⟩;obtain ⟨k,hk⟩:∃j,Rq.cmpQ y z=j:=⟨_,rfl⟩;have u1:decide (0 < j)=false:=by rw [decide_eq_false_iff_not,←hj];exact fun e=>Rat.not_lt.2 G.xy (Rq.cmp_pos.1 e)
 have u2:decide (0 < k)=false:=by rw [decide_eq_false_iff_not,←hk];exact fun e=>Rat.not_lt.2 G.yz (Rq.cmp_pos.1 e)
 have la:=G.la;have HC:=qh (fun W=>jyL (w:=W) hj G.num.1 G.num.2.1 (by omega) (by omega));have HD:=qh (fun W=>jyL (w:=W) hk G.num.2.1 G.num.2.2 (by omega) (by omega));have i1:=(jp0 F.d1 (by omega) (by omega)).2.2;have i2:=(jp0 F.d2 (by omega) (by omega)).2.2;have i3:=(jp0 F.d3 (by omega) (by omega)).2.2;have iv:=(jp0 F.dv (by omega) (by omega)).2.2;have iu:=(jp0 F.du (by omega) (by omega)).2.2;have t1:=F.d1.tla (by omega);have t2:=F.d2.tla (by omega);have t3:=F.d3.tla (by omega);have tv:=F.dv.tla (by omega);have tu:=F.du.tla (by omega);have dx:Dz 30 x:=G.num.1.dzl G.la.1 (by omega);have dy:Dz 30 y:=G.num.2.1.dzl G.la.2.1 (by omega);have dz:Dz 30 z:=G.num.2.2.dzl G.la.2.2 (by omega);have HA1:=qh (fun W (hb:Below w.heap.size w W)=>jz6 (c:=c) (hE.below hb) (h.below hb) hg G.num.1 G.num.2.1 (by omega) (by omega) G.ck.1 G.ck.2.1 F.h1 hd dx dy G.few F.e1 F.d1);have HA2:=qh (fun W (hb:Below w.heap.size w W)=>jz6 (c:=c) (hE.below hb) (h.below hb) hg G.num.2.1 G.num.2.2 (by omega) (by omega) G.ck.2.1 G.ck.2.2 F.h2 hd dy dz G.few F.e2 F.d2);have HA3:=qh (fun W (hb:Below w.heap.size w W)=>jz6 (c:=c) (hE.below hb) (h.below hb) hg G.num.1 G.num.2.2 (by omega) (by omega) G.ck.1 G.ck.2.2 F.h3 hd dx dz G.few F.e3 F.d3);have HT1:=qh (fun W (hb:Below w.heap.size w W)=>jzT (c:=c) (hE.below hb) (h.below hb) hg G.num.2.1 (by omega) G.ck.2.1 hlb hhb F.ev (F.dv.wr (by omega) (by omega)));have huh:u≤((ls.map pq).getD (n - 1) (0,0)).1:=Rat.le_trans F.uy hhb;have HT2:=qh (fun W (hb:Below w.heap.size w W)=>jzT (c:=c) (hE.below hb) (h.below hb) hg iu (by omega) (jjL.2 ⟨_,iu⟩) F.ulo huh F.at_ (F.dv.wr (by omega) (by omega)));have HIN:=qh (fun W (hb:Below w.heap.size w W)=>jzm (c:=c) (hE.below hb) (h.below hb) hg iv (by omega) (jjL.2 ⟨_,iv⟩) F.eu (F.du.wr (by omega) (by omega)));have HCK:=qh (fun W=>jpl (w:=W) (l:=tq u) (k:=0) (jjL.2 ⟨_,iu⟩) (by omega));obtain ⟨j5,hj5⟩:∃j,Rq.cmpQ u y=j:=⟨_,rfl⟩;have u5:decide (0 < j5)=false:=by rw [decide_eq_false_iff_not,←hj5];exact fun e=>Rat.not_lt.2 F.uy (Rq.cmp_pos.1 e)
 have HC5:=qh (fun W=>jyL (w:=W) hj5 iu G.num.2.1 (by omega) (by omega))
 have HR4:=qh (show jar chk [tq s1,tq s2,tq s3,tq v]=0 from jyM (fun l hm=>by
  simp at hm;rcases hm with rfl|rfl|rfl|rfl
  ·exact jjL.2 ⟨_,i1⟩
  ·exact jjL.2 ⟨_,i2⟩
  ·exact jjL.2 ⟨_,i3⟩
  ·exact jjL.2 ⟨_,iv⟩))
 have HL4:Hd (∀l∈ [tq s1,tq s2,tq s3,tq v],l.length≤15000):=qh (fun l hm=>by
  simp at hm
  rcases hm with rfl|rfl|rfl|rfl <;> omega)
 have HR3:=qh (show jar chk [a,b,d]=0 from jyM (fun l hm=>by
  simp at hm;rcases hm with rfl|rfl|rfl
  ·exact G.ck.1
  ·exact G.ck.2.1
  ·exact G.ck.2.2))
 have HAD:=qh (fun W=>(show Calls prog 12 #[bs (tq s1),bs (tq s2)] W (QP s3 W) by
  have:=jto (w:=W) F.d1 F.d2 (by omega) (by omega) (by omega) (by omega)
  rwa [F.sum] at this))
 have HF0:=qh F;have HG0:=qh G;have HGG:=qh hg
 have HPT:=qh (fun i (hi:i < n) W (hb:Below w.heap.size w W)=>(show Calls prog 11 #[.slice A n c,bs (tq ((ls.map pq).getD i (0,0)).1)] W fun e w'=>e= .returned (.tuple #[bs (tq ((ls.map pq).getD i (0,0)).2), .int .i64 0])∧Below W.heap.size W w' by
  have dp:=hd i (by omega);have ip:=(jp0 dp.1 (by omega) (by omega)).2.2;have tp:=dp.1.tla (by omega);have hin:=jAg hg.ups (i:=i) (by omega);rw [hlen] at hin
  exact jzT (c:=c) (hE.below hb) (h.below hb) hg ip (by omega) (jjL.2 ⟨_,ip⟩) hin.1 hin.2 (jyF hg.ups (by omega)) (dp.2.wr (by omega) (by omega))))
 have HTX:=qh (fun i (hi:i < n)=>(show (ls.getD i ([],[])).1=tq ((ls.map pq).getD i (0,0)).1∧(ls.getD i ([],[])).2=tq ((ls.map pq).getD i (0,0)).2 by
  rw [jyT (by rw [hg.len];exact hi)]
  exact ⟨(hg.num i hi).1.eq,(hg.num i hi).2.eq⟩))
 have HE:=qh hE;have HP:=qh h;have HDP:=qh hd;have HLN:=qh hlen;have HX:=qh (ai dx (ai dy dz));clear hE h hn hg G F hd hlen hha hhb hlb hlz hj hk la i1 i2 i3 iv iu t1 t2 t3 tv tu dx dy dz huh hj5;go_enter func3,ntmps3;go_upto_region 1 with (fail)
 obtain ⟨V,hV⟩:∃V,w.alloc (.cells #[bs a,bs b,bs d] 24)=V:=⟨_,rfl⟩;have bV:Below w.heap.size w V:=by rw [←hV];exact bi
 have hSv:Sv V (some ⟨w.heap.size,0,none⟩) 3 [a,b,d]:=by rw [←hV];exact Sv.three w _ a b d
 have p0:V.cell? ⟨w.heap.size,0,none⟩=some (bs a):=by rw [←hV];simp [go_sem]
 have p1:V.cell? ⟨w.heap.size,1,none⟩=some (bs b):=by rw [←hV];simp [go_sem]
 have p2:V.cell? ⟨w.heap.size,2,none⟩=some (bs d):=by rw [←hV];simp [go_sem]
 rw [hV];obtain ⟨g,hgg⟩:∃g,w.heap.size=g:=⟨_,rfl⟩;rw [hgg] at hSv p0 p1 p2 ⊢;have zp:g < V.heap.size:=World.block_lt_of_cell? V _ p0;have _:Sl g V.heap.size:=⟨zp⟩;have HB:=qh bV;have HSV:=qh hSv;have HPP:=qh (ai p0 (ai p1 p2));clear hV hgg bV hSv;go_upto_region 3 with (first|((go_at_call 4;(with_reducible refine mo0 (HS.o _ (ja0 HB.o bi)) fun w1 hb1 hc1 hf1 _=> ?_));have y1_0:=zlt (g) hb1)|((go_at_call 5;(with_reducible refine mo0 (jgr (c:=3) (r:=true) (HSV.o.below bi) (by omega) (by simp [HG0.o.la])) fun w2 hb2 hc2 hf2 _=> ?_));have y2_0:=zlt (g) hb2)|((go_at_call 6;(with_reducible refine mo0 (jz2 (c:=3) (HSV.o.below bi) (by omega) (fun l hm=>by have:=HG0.o.la;simp at hm;rcases hm with rfl|rfl|rfl <;> omega) HR3.o) fun w3 hb3 hc3 hf3 _=> ?_));have y3_0:=zlt (g) hb3)|((go_at_call 7;(with_reducible refine mo0 (H1.o _ (ja0 HB.o bi)) fun w4 hb4 hc4 hf4 _=> ?_));have y4_0:=zlt (g) hb4)|((go_at_call 7;(with_reducible refine mo0 (H2.o _ (ja0 HB.o bi)) fun w5 hb5 hc5 hf5 _=> ?_));have y5_0:=zlt (g) hb5)|((go_at_call 7;(with_reducible refine mo0 (H3.o _ (ja0 HB.o bi)) fun w6 hb6 hc6 hf6 _=> ?_));have y6_0:=zlt (g) hb6)|((go_at_call 8;(with_reducible refine mo0 (HC.o _) fun w7 hb7 hc7 hf7 _=> ?_));have y7_0:=zlt (g) hb7)|((go_at_call 8;(with_reducible refine mo0 (HD.o _) fun w8 hb8 hc8 hf8 _=> ?_));have y8_0:=zlt (g) hb8))
 unfold QP at HAD;go_upto_region 9 with (first|((go_at_call 10;(with_reducible refine mo0 (HA1.o _ (ja0 HB.o bi)) fun w10 hb10 hc10 hf10 _=> ?_));have y10_0:=zlt (g) hb10)|((go_at_call 10;(with_reducible refine mo0 (HA2.o _ (ja0 HB.o bi)) fun w11 hb11 hc11 hf11 _=> ?_));have y11_0:=zlt (g) hb11)|((go_at_call 10;(with_reducible refine mo0 (HA3.o _ (ja0 HB.o bi)) fun w12 hb12 hc12 hf12 _=> ?_));have y12_0:=zlt (g) hb12)|((go_at_call 11;(with_reducible refine mo0 (HT1.o _ (ja0 HB.o bi)) fun w13 hb13 hc13 hf13 _=> ?_));have y13_0:=zlt (g) hb13)|((go_at_call 6;(with_reducible refine mo0 (jz2 (c:=4) (Sv.four _ _ _ _ _ _) (by omega) HL4.o HR4.o) fun w14 hb14 hc14 hf14 _=> ?_));have y14_0:=zlt (g) hb14)|((go_at_call 12;(with_reducible refine mo0 (HAD.o _) fun w15 hb15 hc15 hf15 _=> ?_));have y15_0:=zlt (g) hb15))
 have b15:RowKit.Below V.heap.size V w15:=bi;have h0:=HGG.o.pos;obtain ⟨qs,hqs⟩:∃l,ls.map pq=l:=⟨_,rfl⟩;rw [hqs] at HF0 HTX HDP HLN HPT;obtain ⟨b0,o,rfl,hbl,hcell⟩:=(HP.o.below (ja0 HB.o b15)).at_ h0;obtain ⟨_,y1⟩:=hcell 0 h0;rw [(HTX.o 0 h0).2,Nat.zero_mul,Nat.add_zero] at y1;have q0:decide (0 < n)=true:=by simpa using h0
 have HB15:=qh b15;obtain ⟨Y0,hY0⟩:∃q,(qs.getD 0 (0,0)).2=q:=⟨_,rfl⟩;rw [hY0] at y1;have HY0:=qh hY0;clear hcell b15 hY0 hb1 hb2 hb3 hb4 hb5 hb6 hb7 hb8 hb10 hb11 hb12 hb13 hb14 hb15 hc1 hc2 hc3 hc4 hc5 hc6 hc7 hc8 hc10 hc11 hc12 hc13 hc14 hc15 hf1 hf2 hf3 hf4 hf5 hf6 hf7 hf8 hf10 hf11 hf12 hf13 hf14 hf15 HS H1 H2 H3 HC HD HA1 HA2 HA3 HT1 HAD;refine ja1 (fun w'=>Below w15.heap.size w15 w') [] (by kernel_rfl) ?_;refine tl [(0,[1], .slice (some ⟨b0,o,none⟩) n c),(1,[2], .pointer (some ⟨b0,o,none⟩)),(2,[3], .pointer (some ⟨b0,o+1,none⟩)),(3,[8],bs (tq Y0)),(4,[5], .slice (some ⟨b0,o,none⟩) n c),(5,[6], .pointer (some ⟨b0,o,none⟩)),(6,[7], .pointer (some ⟨b0,o+1,none⟩)),(7,[9],bs (tq Y0))] [_,_,_,_,_,_,_,_] rfl (by kernel_rfl) pk5 (by intros;simp only [tyq,ppq];go_simp) bq0 ?_;simp only [tlq,ppq];refine rd1 8 (by kernel_rfl) rfl (fun K hK=> ?_);go_simp;refine hK.out _ _ (fun _=>bi) ?_;clear hK K;refine rd1 9 (by kernel_rfl) rfl (fun K hK=> ?_);go_simp;refine hK.out _ _ (fun _=>bi) ?_;clear hK K;refine ja2 (by kernel_rfl) ?_ _;go_wp2
 go_loopw [13,14,143] (fun u1 u2 u wr=>∃(i:Nat) (m M:Rat),u1=bs (tq m)∧u2=bs (tq M)∧u= .int .i64 (i:Int)∧i≤n∧(Dz 12 m∧Dz 12 M)∧(∀j,j < i→m≤(qs.getD j (0,0)).2∧(qs.getD j (0,0)).2≤M)∧RowKit.Below w15.heap.size w15 wr) (fun _ _ u _=>n - (intOf u).toNat)
 case atStart=>
  have dY:Dz 12 Y0:=HY0.o ▸ (HDP.o 0 (by have:=HLN.o;omega)).2;exact ⟨0,Y0,Y0,rfl,rfl,rfl,Nat.zero_le _,⟨dY,dY⟩,fun j hj=>by omega,bi⟩
 case round=>
  obtain ⟨i,m,M,rfl,rfl,rfl,hin,hm,hmm,hb⟩:=hrel;have _:=bm hb;have HBR:=qh (ja0 HB15.o hb);have hn8:=HG0.o.few;by_cases hi:i < n
  ·have q1:decide (i < n)=true:=by simpa using hi
   obtain ⟨b1,o1,he,hbl1,hcell⟩:=(HP.o.below (ja0 HB.o HBR.o)).at_ h0;cases he
   obtain ⟨k0,k1⟩:=hcell i hi;have tx:=HTX.o i hi;rw [tx.1] at k0;rw [tx.2] at k1;have HAT:=qh (fun W hb=>HPT.o i hi W hb);have hdp:=HDP.o i (by have:=HLN.o;omega);have HMM:=qh (ai hm (ai hmm hi));have HBL:=qh hb;obtain ⟨⟨X,Y⟩,hXY⟩:∃q,qs.getD i (0,0)=q:=⟨_,rfl⟩;rw [hXY] at k0 k1 HAT hdp;dsimp only at k0 k1 hdp;have HQY:=qh hXY;have HDY:=qh hdp.2;have HMI:=qh (fun W=>(show Calls prog 13 #[bs (tq m),bs (tq Y)] W (QP (jws m Y) W) from jyp hm.1 hdp.2 (by omega) (by omega) (by omega) (by omega)));have HMX:=qh (fun W=>(show Calls prog 14 #[bs (tq M),bs (tq Y)] W (QP (jzH M Y) W) from jAa hm.2 hdp.2 (by omega) (by omega) (by omega) (by omega)));unfold QP at HMI HMX;clear hcell tx hdp hXY hm hmm hin hb p0 p1 p2 zp hbl q0 y1;go_upto_region 16 with (go_at_call 11;(with_reducible refine mo0 (HAT.o _ (ja0 HB.o (ja0 HBR.o bi))) fun w16 hb16 hc16 hf16 _=> ?_))
   have r1:w16.cell? ⟨wr.heap.size,1,none⟩=some (bs (tq Y)):=ja9 hb16 (by simp [go_sem]);have zr:wr.heap.size < w16.heap.size:=World.block_lt_of_cell? w16 _ r1;have b16:RowKit.Below wr.heap.size wr w16:=bi;have HB16:=qh b16;clear b16 hb16 hc16 hf16 HAT k0 k1;refine ja1 (fun w'=>Below w16.heap.size w16 w') [] (by kernel_rfl) ?_;refine tl [(0,[3],bs (tq m)),(1,[2], .pointer (some ⟨wr.heap.size,1,none⟩)),(2,[3],bs (tq Y)),(4,[7],bs (tq M)),(5,[6], .pointer (some ⟨wr.heap.size,1,none⟩)),(6,[7],bs (tq Y))] [_,_,_,_,_,_] rfl (by kernel_rfl) pk5 (by intros;simp only [tyq,ppq];go_simp) bq0 ?_;simp only [tlq,ppq];refine rd1 3 (by kernel_rfl) rfl (fun K hK=> ?_);go_simp;go_wp2_with (go_at_call 13;(with_reducible refine mo0 (HMI.o _) fun w17 hb17 hc17 hf17 _=> ?_))
   have sS17:=qh (bst bq0 hb17);refine hK.out _ _ (fun _=>sS17.o) ?_;clear hK K;refine rd1 7 (by kernel_rfl) rfl (fun K hK=> ?_);go_simp;go_wp2_with (go_at_call 14;(with_reducible refine mo0 (HMX.o _) fun w18 hb18 hc18 hf18 _=> ?_))
   have sS18:=qh (bst sS17.o hb18);refine hK.out _ _ (fun _=>sS18.o) ?_;clear hK K;refine rd1 8 (by kernel_rfl) rfl (fun K hK=> ?_);go_simp;refine hK.out _ _ (fun _=>bi) ?_;clear hK K;refine rd1 9 (by kernel_rfl) rfl (fun K hK=> ?_);go_simp;refine hK.out _ _ (fun _=>bi) ?_;clear hK K;refine ja2 (by kernel_rfl) ?_ _;have b18:RowKit.Below w16.heap.size w16 w18:=bi;have HB18:=qh (ja0 HBL.o (ja0 HB16.o b18));clear b18;go_wp2;obtain ⟨hm,hmm,hi⟩:=HMM.o;have e1:=jzZ m Y;have e2:=jzW M Y;have dY:=HDY.o
   exact ⟨⟨i+1,jws m Y,jzH M Y,rfl,rfl,by simp,hi,⟨by rcases e1.1 with e|e <;> rw [e];exact hm.1;exact dY,by rcases e2.1 with e|e <;> rw [e];exact hm.2;exact dY⟩,fun j hj=>by
    rcases Nat.lt_or_ge j i with e|e
    ·have:=hmm j e;exact ⟨Rat.le_trans e1.2.1 this.1,Rat.le_trans this.2 e2.2.1⟩
    ·rw [show j=i by omega,HQY.o]
     exact ⟨e1.2.2,e2.2.2⟩,HB18.o⟩,by simp [intOf];omega⟩
  ·have q1:decide (i < n)=false:=by simp;omega
   obtain rfl:i=n:=by omega
   have hF:=HF0.o;have hG:=HG0.o;have hX:=HX.o;have bnd:=hF.bnd m M (fun k hk=>hmm k (by have:=HLN.o;omega));obtain ⟨L,hL⟩:∃L,z - x=L:=⟨_,rfl⟩;have dL:Dz 61 L:=hL ▸ hX.2.2.sub hX.1;rw [hL] at bnd;obtain ⟨P1,hP1⟩:∃L',L*m=L':=⟨_,rfl⟩;obtain ⟨P2,hP2⟩:∃L',L*M=L':=⟨_,rfl⟩;have d1:Dz 73 P1:=hP1 ▸ dL.mul hm.1;have d2:Dz 73 P2:=hP2 ▸ dL.mul hm.2;rw [hP1,hP2] at bnd
   have HSB:=qh (fun W=>(show Calls prog 15 #[bs d,bs a] W (QP L W) by
    have:=jg3 (w:=W) hX.2.2 hX.1 (by omega) (by omega) (by omega) (by omega);rw [hL,←hG.num.2.2.eq,←hG.num.1.eq] at this
    exact this))
   have HM1:=qh (fun W=>(show Calls prog 16 #[bs (tq L),bs (tq m)] W (QP P1 W) from hP1 ▸ jka dL hm.1 (by omega) (by omega) (by omega) (by omega)));have HM2:=qh (fun W=>(show Calls prog 16 #[bs (tq L),bs (tq M)] W (QP P2 W) from hP2 ▸ jka dL hm.2 (by omega) (by omega) (by omega) (by omega)));unfold QP at HSB HM1 HM2;obtain ⟨j1,hj1⟩:∃j,Rq.cmpQ s3 P1=j:=⟨_,rfl⟩;obtain ⟨j2,hj2⟩:∃j,Rq.cmpQ s3 P2=j:=⟨_,rfl⟩;obtain ⟨j3,hj3⟩:∃j,Rq.cmpQ v m=j:=⟨_,rfl⟩;obtain ⟨j4,hj4⟩:∃j,Rq.cmpQ v M=j:=⟨_,rfl⟩;have v1:decide (j1 < 0)=false:=by rw [decide_eq_false_iff_not,←hj1,Int.not_lt];exact jzu.2 bnd.1
   have v2:decide (0 < j2)=false:=by rw [decide_eq_false_iff_not,←hj2,Int.not_lt];exact jAi.2 bnd.2.1
   have v3:decide (j3 < 0)=false:=by rw [decide_eq_false_iff_not,←hj3,Int.not_lt];exact jzu.2 bnd.2.2.1
   have v4:decide (0 < j4)=false:=by rw [decide_eq_false_iff_not,←hj4,Int.not_lt];exact jAi.2 bnd.2.2.2
   have HC1:=qh (fun W=>jko (w:=W) hj1 hF.d3 d1 (by omega) (by omega) (by omega) (by omega));have HC2:=qh (fun W=>jko (w:=W) hj2 hF.d3 d2 (by omega) (by omega) (by omega) (by omega));have HC3:=qh (fun W=>jko (w:=W) hj3 hF.dv hm.1 (by omega) (by omega) (by omega) (by omega));have HC4:=qh (fun W=>jko (w:=W) hj4 hF.dv hm.2 (by omega) (by omega) (by omega) (by omega));replace p0:=ja9 HBR.o p0;replace p1:=ja9 HBR.o p1;replace p2:=ja9 HBR.o p2;have zp:g < wr.heap.size:=World.block_lt_of_cell? wr _ p0;have _:Sl g wr.heap.size:=⟨zp⟩;clear hF hG hX bnd hL dL hP1 hP2 d1 d2 hj1 hj2 hj3 hj4 hm hmm hb hin hbl y1 q0 hi HF0 HTX HPT HDP;go_upto_region 21 with (first|((go_at_call 15;(with_reducible refine mo0 (HSB.o _) fun w20 hb20 hc20 hf20 _=> ?_));have y20_0:=zlt (g) hb20)|((go_at_call 16;(with_reducible refine mo0 (HM1.o _) fun w21 hb21 hc21 hf21 _=> ?_));have y21_0:=zlt (g) hb21)|((go_at_call 8;(with_reducible refine mo0 (HC1.o _) fun w22 hb22 hc22 hf22 _=> ?_));have y22_0:=zlt (g) hb22)|((go_at_call 16;(with_reducible refine mo0 (HM2.o _) fun w23 hb23 hc23 hf23 _=> ?_));have y23_0:=zlt (g) hb23)|((go_at_call 8;(with_reducible refine mo0 (HC2.o _) fun w24 hb24 hc24 hf24 _=> ?_));have y24_0:=zlt (g) hb24)|((go_at_call 8;(with_reducible refine mo0 (HC3.o _) fun w25 hb25 hc25 hf25 _=> ?_));have y25_0:=zlt (g) hb25)|((go_at_call 8;(with_reducible refine mo0 (HC4.o _) fun w26 hb26 hc26 hf26 _=> ?_));have y26_0:=zlt (g) hb26))
   go_wp2_with (first|((go_at_call 17;(with_reducible refine mo0 (HIN.o _ (ja0 HB.o (ja0 HBR.o bi))) fun w27 hb27 hc27 hf27 _=> ?_));have y27_0:=zlt (g) hb27)|((go_at_call 18;(with_reducible refine mo0 (HCK.o _) fun w28 hb28 hc28 hf28 _=> ?_));have y28_0:=zlt (g) hb28)|((go_at_call 8;(with_reducible refine mo0 (HC5.o _) fun w29 hb29 hc29 hf29 _=> ?_));have y29_0:=zlt (g) hb29)|((go_at_call 11;(with_reducible refine mo0 (HT2.o _ (ja0 HB.o (ja0 HBR.o bi))) fun w30 hb30 hc30 hf30 _=> ?_));have y30_0:=zlt (g) hb30)|(go_at_call 9;(with_reducible refine mo0 (HA.o _ (ja0 HB.o (ja0 HBR.o bi))) fun w31 hb31 hc31 hf31 _=> ?_)))
   go_ret;exact ⟨rfl,ja0 HB.o (ja0 HBR.o bi)⟩
theorem jzn (hE:Env w) (h:Pv w A n ls) (hn:n < 9223372036854775808∧n≤c):
  Calls prog 3 #[.slice A n c, .agg #[bs a,bs b,bs d]] w fun e w'=>e= .returned (.bool true)∧Below w.heap.size w w':=by
 rcases jzs (a:=a) (b:=b) (d:=d) hE h hn with ⟨x,y,z,hg,G⟩|h
 ·exact jzk hE h hn hg G
 ·exact h
end
end Go.Proofs.YtpkcjfpgemdfdaaGreatDoor
