/- Parts. -/
import Derived.Test.YtfagcpcikjlboaaGreatDoorWfG
import Derived.LoopTactic
import Derived.Deep.CutBlock
set_option linter.all false
set_option maxRecDepth 100000
set_option maxHeartbeats 8000000
namespace Go.Proofs.YtfagcpcikjlboaaGreatDoor
open Go Go.RowKit Go.Proofs.Tryz

structure Guessed (zs vs:List Nat) (j k q:Nat):Prop where
 ge:sv (fun i=>dg zs (j+i)) (k+3) / sv (dg vs) (k+2)≤q
 lt:q < B64
 end_ : q * sv (dg vs) (k + 2) < sv (fun i => dg zs (j + i)) (k + 3) + sv (dg vs) (k + 2)

theorem jvz {hi lo r u P B:Nat} (hP:hi*B+lo=P) (hlo:lo < B) (h:hi < r):P≤(r+B*0)*B+u:=by
 have:(hi+1)*B≤r*B:=Nat.mul_le_mul_right _ h;rw [Nat.add_mul,Nat.one_mul] at this;rw [Nat.mul_zero,Nat.add_zero];omega
theorem jvE {hi lo r u P B:Nat} (hP:hi*B+lo=P) (h:hi=r) (h2:u < lo):(r+B*0)*B+u < P:=by
 rw [Nat.mul_zero,Nat.add_zero,←h];omega
theorem jvy {hi lo r u P B:Nat} (hP:hi*B+lo=P) (h:hi=r) (h2:lo≤u):P≤(r+B*0)*B+u:=by
 rw [Nat.mul_zero,Nat.add_zero,←h];omega
theorem jvK {hi lo r u P B:Nat} (hP:hi*B+lo=P) (hu:u < B) (h:r < hi):(r+B*0)*B+u < P:=by
 have:(r+1)*B≤hi*B:=Nat.mul_le_mul_right _ h;rw [Nat.add_mul,Nat.one_mul] at this;rw [Nat.mul_zero,Nat.add_zero];omega






theorem jbV (x y b d e:Nat) (hb:b≤1) (hd:d=(x+B64 - y - b) % B64) (he:e=if x < y+b then 1 else 0) (w:World):
  (callFunc 210 #[.int .u64 x, .int .u64 y, .int .u64 b]).run prog w= .ok (.value (.tuple #[.int .u64 (d:Int), .int .u64 (e:Int)])) w:=by
 subst hd;subst he;exact jdC x y b hb w
theorem TakeInv.start (zs vs:List Nat) (j q:Nat):TakeInv zs zs vs j q 0 0 0:=⟨rfl,by omega,ja6,fun _ _=>rfl,by simp [sv]⟩

theorem TakeInv.q_pos {zs ws vs:List Nat} {j q n b c d b':Nat} (h:TakeInv zs ws vs j q n b c) (hwd:∀i,dg ws i < B64) (h2:d+(c+b)=dg ws (j+n)+B64*b') (hb:b'=1) (hdB:d < B64):0 < q:=by
 rcases Nat.eq_zero_or_pos q with h0|h0
 ·exfalso;have hv:=h.val;rw [h0,Nat.zero_mul,Nat.add_zero] at hv;have hl:sv (fun i=>dg ws (j+i)) n < B64^n:=ji7 (fun i=>hwd _) n
  have hbc:b+c=0:=by
   rcases Nat.eq_zero_or_pos (b+c) with h3|h3
   ·exact h3
   ·exfalso;have:=Nat.le_mul_of_pos_right (B64^n) h3;omega
  rw [hb,Nat.mul_one] at h2;omega
 ·exact h0
theorem BackInv.start (zs vs:List Nat) (j:Nat):BackInv zs zs vs j 0 0:=⟨rfl,by omega,fun _ _=>rfl,by simp [sv]⟩
theorem je0 (x y c d e:Nat) (hc:c≤1) (hd:d=(x+y+c) % B64) (he:e=(x+y+c) / B64) (w:World):
  (callFunc 166 #[.int .u64 x, .int .u64 y, .int .u64 c]).run prog w= .ok (.value (.tuple #[.int .u64 (d:Int), .int .u64 (e:Int)])) w:=by
 subst hd;subst he;exact jbG x y c hc w
def jds (zs vs:List Nat) (g j n m:Nat) (w:World) (e:Ending) (w':World):Prop:=
 ∃q ws,e= .returned (.int .u64 ((q:Nat):Int))∧StepDone zs ws vs j n q∧RowAt w w' g m ws
theorem je9 {zs vs ws:List Nat} {g j n m q:Nat} {w w':World} {v:Value} (hv:v= .int .u64 (q:Int)) (h1:StepDone zs ws vs j n q) (h2:RowAt w w' g m ws):jds zs vs g j n m w (.returned v) w':=
 ⟨q,ws,by rw [hv],h1,h2⟩

theorem jbk (x y d e:Nat) (hd:d=(x+y) % B64) (he:e=(x+y) / B64) (w:World):
  (callFunc 166 #[.int .u64 x, .int .u64 y, .int .u64 0]).run prog w= .ok (.value (.tuple #[.int .u64 (d:Int), .int .u64 (e:Int)])) w:=jbj x y d e hd he w

theorem jiQ (hi lo y q r:Nat) (hh:hi < y) (hlo:lo < B64) (hy:y < B64) (hq:q=(hi*B64+lo) / y) (hr:r=(hi*B64+lo) % y) (W:World) (n:Nat):
  Calls prog 177 #[.int .u64 (hi:Int), .int .u64 (lo:Int), .int .u64 (y:Int)] (W.drewN n) fun e w''=>e= .returned (.tuple #[.int .u64 (q:Int), .int .u64 (r:Int)])∧∃m,w''=W.drewN m:=
 (jd4 hi lo y hh hlo hy _).mono fun e w' ⟨he,m,hm⟩=>⟨by rw [he,hq,hr],n+m,by rw [hm,World.drewN_drewN]⟩

theorem jio (hi lo y q r:Nat) (hh:hi < y) (hlo:lo < B64) (hy:y < B64) (hq:q=(hi*B64+lo) / y) (hr:r=(hi*B64+lo) % y) (W:World) (a n:Nat):
  Calls prog 177 #[.int .u64 (hi:Int), .int .u64 (lo:Int), .int .u64 (y:Int)] (W.drewN (a+n)) fun e w''=>e= .returned (.tuple #[.int .u64 (q:Int), .int .u64 (r:Int)])∧∃m,w''=W.drewN (a+m):=
 (jd4 hi lo y hh hlo hy _).mono fun e w' ⟨he,m,hm⟩=>⟨by rw [he,hq,hr],n+m,by rw [hm,World.drewN_drewN,Nat.add_assoc]⟩

theorem jqa (g j k m cu cv bv ov:Nat) (zs vs:List Nat) (w:World) (hz:RowAt w w g m zs) (hm:j+(k+2) < m) (hm2:m < 1099511627776) (hv:Wd w (some ⟨bv,ov,none⟩) (k+2) vs) (hne:bv≠g) (hN:StepNums zs vs j k):
  Calls prog 180 #[.slice (some ⟨g,j,none⟩) (k+2+1) cu, .slice (some ⟨bv,ov,none⟩) (k+2) cv] w (jds zs vs g j (k+2) m w):=by
 have htop:=jtQ hN hv.dig;obtain ⟨b0,o0,e0,hbl,hcell⟩:=hv.at_ (by omega)
 injection e0 with e0
 injection e0 with e1 e2
 subst e1;subst e2;obtain ⟨p0,_⟩:=hz.place (j:=j+(k+2)) (by omega);obtain ⟨p1,_⟩:=hz.place (j:=j+(k+1)) (by omega);obtain ⟨p2,_⟩:=hz.place (j:=j+k) (by omega);have c1:=hcell (k+1) (by omega);have c2:=hcell k (by omega);have HC:=qh hcell;have HZ:=qh hz;have HV:=qh hv;have HN:=qh hN;have HT:=qh htop;have U2:=qh (ja8 hv.dig (k+1));clear hcell hz hv hN htop;go_enter func180,ntmps180;go_wp2
 go_quiet (fail)
 go_upto_if 30 with (fail)
 go_cut [6,7,8] (fun a b c wx=>∃q r o:Nat,a= .int .u64 (q:Int)∧b= .int .u64 (r:Int)∧c= .int .u64 (o:Int)∧(∃m,wx=w.drewN m)∧r < B64∧o≤1∧Guess zs vs j k q (r+B64*o))
 case first=>
  have u1:=ja8 HZ.o.dig (j+(k+1));have u2:=ja8 HV.o.dig (k+1);rcases Nat.lt_or_ge (dg zs (j+(k+2))) (dg vs (k+1)) with he|he
  ·obtain ⟨d0,hd⟩:∃q,q=(dg zs (j+(k+2))*B64+dg zs (j+(k+1))) / dg vs (k+1):=⟨_,rfl⟩;obtain ⟨d,hee⟩:∃q,q=(dg zs (j+(k+2))*B64+dg zs (j+(k+1))) % dg vs (k+1):=⟨_,rfl⟩;have G0:Guess zs vs j k d0 (d+B64*0):=jnl HN.o HZ.o.dig HV.o.dig he hd hee;have hdl:d < B64:=by rw [hee];exact Nat.lt_trans (Nat.mod_lt _ HN.o.pos) u2
   have A0:=qh (fun W n=>jiQ (dg zs (j+(k+2))) (dg zs (j+(k+1))) (dg vs (k+1)) d0 d he u1 u2 hd hee W n);have A1:=qh (fun W a n=>jio (dg zs (j+(k+2))) (dg zs (j+(k+1))) (dg vs (k+1)) d0 d he u1 u2 hd hee W a n);have HD:=qh (ai hdl G0);have hge:decide (dg vs (k+1)≤dg zs (j+(k+2)))=false:=by rw [decide_eq_false_iff_not];omega
   clear hd hee G0 u1 u2 hdl;simp only [hge];clear he;go_wp2
   go_quiet ((go_at_call 177;first|exact A1.o _ _ _|exact A0.o _ _))
   go_wp2;go_meet;exact ⟨d0,d,0,rfl,rfl,rfl,by first|exact ⟨_,rfl⟩|exact ⟨_,World.drewN_drewN _ _ _⟩|exact ⟨_,by rw [World.drewN_drewN,World.drewN_drewN]⟩,HD.o.1,by omega,HD.o.2⟩
  ·obtain ⟨d,hd⟩:∃q,q=(dg zs (j+(k+1))+dg vs (k+1)) % B64:=⟨_,rfl⟩;obtain ⟨e,hee⟩:∃q,q=(dg zs (j+(k+1))+dg vs (k+1)) / B64:=⟨_,rfl⟩
   have G0:Guess zs vs j k 18446744073709551615 (d+B64*e):=by
    rw [hd,hee,Nat.mod_add_div];exact jkB HN.o HZ.o.dig (by have:=HT.o;omega)
   have a0:=fun w=>jbk _ _ d e hd hee w
   have HS:Hd (d < B64∧e≤1∧Guess zs vs j k 18446744073709551615 (d+B64*e)):=qh ⟨by rw [hd];exact Nat.mod_lt _ ja6,by
    rw [hee];exact Nat.le_of_lt_succ ((Nat.div_lt_iff_lt_mul ja6).2 (by rw [ja3];omega)),G0⟩
   have hge:decide (dg vs (k+1)≤dg zs (j+(k+2)))=true:=by rw [decide_eq_true_iff];exact he
   clear hd hee G0 he u1 u2;simp only [hge];go_wp2
   go_quiet (fail)
   go_wp2;go_meet;exact ⟨18446744073709551615,d,e,rfl,rfl,rfl,by first|exact ⟨_,rfl⟩|exact ⟨_,World.drewN_drewN _ _ _⟩|exact ⟨_,by rw [World.drewN_drewN,World.drewN_drewN]⟩,HS.o.1,HS.o.2.1,HS.o.2.2⟩
 case rest=>
  rename World=>wq
  obtain ⟨q0,r0,o0,rfl,rfl,rfl,HW,hr0,ho0,hG0⟩:=hcut;have G:=qh (ai hr0 (ai ho0 hG0));clear hr0 ho0 hG0
  go_upto_block 0 with (fail)
  go_cut [6] (fun s6 wx=>∃q m:Nat,s6= .int .u64 (q:Int)∧wx=w.drewN m∧Guessed zs vs j k q)
  case first=>
   (try clear hk0 hkm)
   go_wp2
   go_loopw [6,7,8] (fun a b c wx=>∃q r o m:Nat,a= .int .u64 (q:Int)∧b= .int .u64 (r:Int)∧c= .int .u64 (o:Int)∧wx=w.drewN m∧r < B64∧o≤1∧Guess zs vs j k q (r+B64*o)) (fun a _ c _=>2*(intOf a).toNat+1 - (intOf c).toNat)
   case atStart=>
    obtain ⟨n,hn⟩:=HW;exact ⟨q0,r0,o0,n,rfl,rfl,rfl,hn,G.o.1,G.o.2.1,G.o.2.2⟩
   case round=>
    obtain ⟨q,r,o,m,rfl,rfl,rfl,rfl,hr,ho,hG⟩:=hrel;rcases Nat.eq_zero_or_pos o with h0|h0
    ·subst h0;have w2:=ja8 HV.o.dig k;have w3:=ja8 HZ.o.dig (j+k);have W2:=qh w2;have W3:=qh w3;clear w2 w3;have hq:=hG.lt;obtain ⟨hi,ehi⟩:∃x,x=q*dg vs k / B64:=⟨_,rfl⟩;obtain ⟨lo,elo⟩:∃x,x=q*dg vs k % B64:=⟨_,rfl⟩;have hprod:hi*B64+lo=q*dg vs k:=by rw [ehi,elo];exact Nat.div_add_mod' _ _
     have hlo:lo < B64:=by rw [elo];exact Nat.mod_lt _ ja6
     have M1:=qh ehi;have M2:=qh elo;have HQ:=qh hq;have HG:=qh hG;have HR:=qh hr;have HP:=qh hprod;have HLO:=qh hlo;clear ehi elo hG hr hprod hlo hq;rcases Nat.lt_trichotomy hi r with h1|h1|h1
     ·have h1':(hi:Int) < (r:Int):=by omega
      have hend:=jvz (u:=dg zs (j+k)) HP.o HLO.o h1;have HEND:=qh hend;clear hend h1;go_wp2_with (go_at_call 127;((with_reducible refine (jam _ _ _ _ HQ.o W2.o M1.o M2.o _).mono ?_);rintro e w1 ⟨rfl,rfl⟩))
      go_meet;exact ⟨q,m,rfl,rfl,HG.o.ge,HG.o.lt,jbP HN.o HV.o.dig HG.o HEND.o⟩
     ·have h1':¬(hi:Int) < (r:Int):=by omega
      have h1b:((hi:Int)==(r:Int))=true:=by rw [beq_iff_eq];omega
      rcases Nat.lt_or_ge (dg zs (j+k)) lo with h2|h2
      ·have h2':¬(lo:Int)≤(dg zs (j+k):Int):=by omega
       have hgo:=jvE HP.o h1 h2;clear h1 h2;obtain ⟨gg,g1⟩:=jea HN.o HZ.o.dig HG.o hgo;obtain ⟨q',hq'⟩:∃x,x=q - 1:=⟨_,rfl⟩;rw [←hq'] at gg;have hqq:IntKind.u64.wrap ((q:Int) - 1)=(q':Int):=jjl q 1 q' g1 HQ.o hq';have hql:q' < q:=by omega
       have HQL:=qh hql;obtain ⟨d',hd'⟩:∃x,x=(r+dg vs (k+1)) % B64:=⟨_,rfl⟩;obtain ⟨e',he'⟩:∃x,x=(r+dg vs (k+1)) / B64:=⟨_,rfl⟩;have a1:=fun w=>jbk _ _ d' e' hd' he' w
       have el:e'≤1:=by
        rw [he'];refine Nat.le_of_lt_succ ((Nat.div_lt_iff_lt_mul ja6).2 ?_);have:=HR.o;have:=U2.o;rw [ja3] at*;omega
       have gg0:Guess zs vs j k q' (r+dg vs (k+1)):=by rw [Nat.mul_zero,Nat.add_zero] at gg;exact gg
       have gg':Guess zs vs j k q' (d'+B64*e'):=by
        rw [hd',he',Nat.mod_add_div];exact gg0
       have GG:=qh gg';have HD':Hd (d' < B64):=by show _ < _;rw [hd'];exact Nat.mod_lt _ ja6
       clear gg gg0 gg' hd' he' hgo hq' g1 hql;go_wp2_with (go_at_call 127;((with_reducible refine (jam _ _ _ _ HQ.o W2.o M1.o M2.o _).mono ?_);rintro e w1 ⟨rfl,rfl⟩))
       have HQQ:=qh hqq;clear hqq
       go_roundw
       case rel=>exact ⟨q',d',e',m,rfl,rfl,rfl,rfl,HD'.o,el,GG.o⟩
       case measure=>have:=HQL.o;simp [intOf];omega
      ·have h2':(lo:Int)≤(dg zs (j+k):Int):=by omega
       have hend:=jvy HP.o h1 h2;have HEND:=qh hend;clear hend h1 h2;go_wp2_with (go_at_call 127;((with_reducible refine (jam _ _ _ _ HQ.o W2.o M1.o M2.o _).mono ?_);rintro e w1 ⟨rfl,rfl⟩))
       go_meet;exact ⟨q,m,rfl,rfl,HG.o.ge,HG.o.lt,jbP HN.o HV.o.dig HG.o HEND.o⟩
     ·have h1':¬(hi:Int) < (r:Int):=by omega
      have h1b:((hi:Int)==(r:Int))=false:=by rw [beq_eq_false_iff_ne];omega
      have hgo:=jvK (u:=dg zs (j+k)) HP.o W3.o h1;clear h1;obtain ⟨gg,g1⟩:=jea HN.o HZ.o.dig HG.o hgo;obtain ⟨q',hq'⟩:∃x,x=q - 1:=⟨_,rfl⟩;rw [←hq'] at gg;have hqq:IntKind.u64.wrap ((q:Int) - 1)=(q':Int):=jjl q 1 q' g1 HQ.o hq';have hql:q' < q:=by omega
      have HQL:=qh hql;obtain ⟨d',hd'⟩:∃x,x=(r+dg vs (k+1)) % B64:=⟨_,rfl⟩;obtain ⟨e',he'⟩:∃x,x=(r+dg vs (k+1)) / B64:=⟨_,rfl⟩;have a1:=fun w=>jbk _ _ d' e' hd' he' w
      have el:e'≤1:=by
       rw [he'];refine Nat.le_of_lt_succ ((Nat.div_lt_iff_lt_mul ja6).2 ?_);have:=HR.o;have:=U2.o;rw [ja3] at*;omega
      have gg0:Guess zs vs j k q' (r+dg vs (k+1)):=by rw [Nat.mul_zero,Nat.add_zero] at gg;exact gg
      have gg':Guess zs vs j k q' (d'+B64*e'):=by
       rw [hd',he',Nat.mod_add_div];exact gg0
      have GG:=qh gg';have HD':Hd (d' < B64):=by show _ < _;rw [hd'];exact Nat.mod_lt _ ja6
      clear gg gg0 gg' hd' he' hgo hq' g1 hql;go_wp2_with (go_at_call 127;((with_reducible refine (jam _ _ _ _ HQ.o W2.o M1.o M2.o _).mono ?_);rintro e w1 ⟨rfl,rfl⟩))
      have HQQ:=qh hqq;clear hqq
      go_roundw
      case rel=>exact ⟨q',d',e',m,rfl,rfl,rfl,rfl,HD'.o,el,GG.o⟩
      case measure=>have:=HQL.o;simp [intOf];omega
    ·have e1:o=1:=by omega
     subst e1;have hend:=jfI HV.o.dig hG (by omega);have HEND:=qh hend;have HG:=qh hG;clear hend hG hr;go_wp2;go_meet;exact ⟨q,m,rfl,rfl,HG.o.ge,HG.o.lt,jbP HN.o HV.o.dig HG.o HEND.o⟩
  case rest=>
   obtain ⟨q,nd,rfl,rfl,hg⟩:=hcut;have HGD:=qh hg;clear hg HW G p0 p1 p2 c1 c2;go_wp2
   go_loopw [11,12,105] (fun b c i wx=>∃(i' b' c':Nat) (ws:List Nat),i'≤k+2∧i= .int .i64 (i':Int)∧b= .int .u64 (b':Int)∧c= .int .u64 (c':Int)∧RowAt w wx g m ws∧TakeInv zs ws vs j q i' b' c') (fun _ _ i _=>k+2 - (intOf i).toNat)
   case atStart=>exact ⟨0,0,0,zs,by omega,rfl,rfl,rfl,HZ.o.drewN nd,TakeInv.start _ _ _ _⟩
   case round=>
    obtain ⟨i,bw,cy,ws,hi,rfl,rfl,rfl,hR,hT⟩:=hrel;rcases Nat.lt_or_ge i (k+2) with hlt|hge
    ·obtain ⟨pl1,pl2⟩:=hR.place (j:=j+i) (by omega);have vl:=hR.other hbl hne (HC.o i hlt);have qB:=HGD.o.lt;have vB:=ja8 HV.o.dig i;have uB:=ja8 hR.dig (j+i);have hbw:=hT.bor;have hth:=jm6 (c:=cy) qB vB hT.car;obtain ⟨h,eh⟩:∃x,x=q*dg vs i / B64:=⟨_,rfl⟩;obtain ⟨l,el⟩:∃x,x=q*dg vs i % B64:=⟨_,rfl⟩;rw [←eh,←el] at hth;obtain ⟨d1,ed1⟩:∃x,x=(l+cy) % B64:=⟨_,rfl⟩;obtain ⟨e1,ee1⟩:∃x,x=(l+cy) / B64:=⟨_,rfl⟩;rw [←ed1,←ee1] at hth;have hd1:d1 < B64:=by rw [ed1];exact Nat.mod_lt _ ja6
     obtain ⟨d2,ed2⟩:∃x,x=(dg ws (j+i)+B64 - d1 - bw) % B64:=⟨_,rfl⟩;obtain ⟨e2,ee2⟩:∃x,x=if dg ws (j+i) < d1+bw then 1 else 0:=⟨_,rfl⟩
     have hsd:=jc8 (c:=bw) (show dg ws (j+i) < B64 from uB) hd1 hbw;rw [←ed2,←ee2] at hsd;have he2:e2≤1:=by rw [ee2];split <;> omega
     have hd2:d2 < B64:=by rw [ed2];exact Nat.mod_lt _ ja6
     have hS:=hT.step (by rw [HZ.o.len];omega) hth.1 hth.2 hsd he2;have hP:=hR.put (j+i) d2 hd2;have b1:(h:Int)+(e1:Int) < 18446744073709551616:=by have:=hth.2;rw [ja3] at this;omega
     have a1:=fun w=>jbj l cy d1 e1 ed1 ee1 w
     have a2:=fun w=>jbV (dg ws (j+i)) d1 bw d2 e2 hbw ed2 ee2 w
     have i0:(0:Int)≤(i:Int):=by omega
     have i1:(i:Int) < (k:Int)+2:=by omega
     have i2:(i:Int) < (k:Int)+2+1:=by omega
     have QB:=qh qB;have VB:=qh vB;have HS:=qh hS;have HPP:=qh hP;have M1:=qh eh;have M2:=qh el;have HLT:=qh hlt;clear qB vB uB hbw hth eh el ed1 ee1 hd1 ed2 ee2 hsd he2 hd2 hS hP hR hT hlt hi;go_wp2_with (go_at_call 127;((with_reducible refine (jam _ _ _ _ QB.o VB.o M1.o M2.o _).mono ?_);rintro e w1 ⟨rfl,rfl⟩))
     go_roundw
     case rel=>exact ⟨i+1,e2,h+e1,_,by have:=HLT.o;omega,by go_num,rfl,by simp only [Int.natCast_add],HPP.o,HS.o⟩
     case measure=>have:=HLT.o;simp [intOf];omega
    ·have e:i=k+2:=by omega
     subst e;obtain ⟨pl1,pl2⟩:=hR.place (j:=j+(k+2)) (by omega);have uB:=ja8 hR.dig (j+(k+2));have hbw:=hT.bor;obtain ⟨d2,ed2⟩:∃x,x=(dg ws (j+(k+2))+B64 - cy - bw) % B64:=⟨_,rfl⟩;obtain ⟨e2,ee2⟩:∃x,x=if dg ws (j+(k+2)) < cy+bw then 1 else 0:=⟨_,rfl⟩
     have hsd:=jc8 (c:=bw) (show dg ws (j+(k+2)) < B64 from uB) hT.car hbw;rw [←ed2,←ee2] at hsd;have he2:e2≤1:=by rw [ee2];split <;> omega
     have hd2:d2 < B64:=by rw [ed2];exact Nat.mod_lt _ ja6
     have hP:=hR.put (j+(k+2)) d2 hd2;have a2:=fun w=>jbV (dg ws (j+(k+2))) cy bw d2 e2 hbw ed2 ee2 w
     have HSD:=qh hsd;have HT:=qh hT;have HR:=qh hR;have HPP:=qh hP;have HD2:=qh hd2;clear uB hbw ed2 ee2 hsd hd2 hP hR hT hi hge;rcases Nat.eq_zero_or_pos e2 with e0|e0
     ·have E0:=qh e0;have b1:((e2:Int)==0)=true:=by rw [beq_iff_eq];omega
      clear e0 he2;go_wp2;go_ret;exact je9 rfl (HT.o.right (by rw [HZ.o.len];exact hm) HGD.o.ge (jlh HN.o) HSD.o E0.o) HPP.o
     ·have e1:e2=1:=by omega
      have E1:=qh e1;have b1:((e2:Int)==0)=false:=by rw [beq_eq_false_iff_ne];omega
      clear e0 he2 e1;go_wp2
      go_loopw [17,157] (fun c i wx=>∃(i' c':Nat) (xs:List Nat),i'≤k+2∧i= .int .i64 (i':Int)∧c= .int .u64 (c':Int)∧RowAt w wx g m xs∧BackInv (ws.set (j+(k+2)) d2) xs vs j i' c') (fun _ i _=>k+2 - (intOf i).toNat)
      case atStart=>exact ⟨0,0,_,by omega,rfl,rfl,HPP.o,BackInv.start _ _ _⟩
      case round=>
       obtain ⟨i,c3,xs,hi,rfl,rfl,hR,hT⟩:=hrel;rcases Nat.lt_or_ge i (k+2) with hlt|hge
       ·obtain ⟨pl1,pl2⟩:=hR.place (j:=j+i) (by omega);have vl:=hR.other hbl hne (HC.o i hlt);have vB:=ja8 HV.o.dig i;have uB:=ja8 hR.dig (j+i);have hbw:=hT.car;obtain ⟨d3,ed3⟩:∃x,x=(dg xs (j+i)+dg vs i+c3) % B64:=⟨_,rfl⟩;obtain ⟨e3,ee3⟩:∃x,x=(dg xs (j+i)+dg vs i+c3) / B64:=⟨_,rfl⟩;have hd3:d3 < B64:=by rw [ed3];exact Nat.mod_lt _ ja6
        have hsd:d3+B64*e3=dg xs (j+i)+dg vs i+c3:=by rw [ed3,ee3,Nat.mod_add_div]
        have he3:e3≤1:=by rw [ee3];exact jep uB vB hbw
        have hS:=hT.step (by rw [List.length_set,HT.o.len,HZ.o.len];omega) hsd he3;have hP:=hR.put (j+i) d3 hd3;have a1:=fun w=>je0 (dg xs (j+i)) (dg vs i) c3 d3 e3 hbw ed3 ee3 w
        have i0:(0:Int)≤(i:Int):=by omega
        have i1:(i:Int) < (k:Int)+2:=by omega
        have i2:(i:Int) < (k:Int)+2+1:=by omega
        have HS:=qh hS;have HP3:=qh hP;have HLT:=qh hlt;clear vB uB hbw ed3 ee3 hd3 hsd he3 hS hP hR hT hlt hi;go_wp2
        go_region
        go_wp2;exact ⟨⟨i+1,e3,_,by have:=HLT.o;omega,by go_num,rfl,HP3.o.drewN 1,HS.o⟩,by have:=HLT.o;simp [intOf];omega⟩
       ·have e:i=k+2:=by omega
        subst e;obtain ⟨pl1,pl2⟩:=hR.place (j:=j+(k+2)) (by omega);have hq0:=HT.o.q_pos (fun i=>ja8 HR.o.dig i) HSD.o E1.o HD2.o;obtain ⟨w1,w2⟩:=HT.o.wrong (by rw [HZ.o.len];exact hm) (jlh HN.o) HV.o.dig (fun i=>ja8 hR.dig i) (fun i=>ja8 HR.o.dig i) HGD.o.end_ hq0 HSD.o E1.o HD2.o hT;have ed:dg xs (j+(k+2))=d2:=by rw [hT.out _ (by omega),jaG (by rw [HT.o.len,HZ.o.len];exact hm)]
        have a3:=jrq (dg xs (j+(k+2))) c3 0 (by rw [ed];exact w1.symm);have hP:=hR.put (j+(k+2)) 0 ja6;obtain ⟨q',hq'⟩:∃x,x=q - 1:=⟨_,rfl⟩;rw [←hq'] at w2;have hqq:IntKind.u64.wrap ((q:Int) - 1)=(q':Int):=jjl q 1 q' hq0 HGD.o.lt hq';have W2:=qh w2;have HP3:=qh hP;clear w1 w2 ed hP hR hT hq' hi hge hq0;go_wp2;go_ret;exact je9 rfl W2.o HP3.o
end Go.Proofs.YtfagcpcikjlboaaGreatDoor
namespace Go.Proofs.YtfagcpcikjlboaaGreatDoor
end Go.Proofs.YtfagcpcikjlboaaGreatDoor
