/- Parts. -/
import Derived.Test.YthciialjockjmaaGreatDoorWh
set_option linter.all false
set_option maxRecDepth 100000
set_option maxHeartbeats 8000000
namespace Go.Proofs.YthciialjockjmaaGreatDoor
open Go Go.RowKit






theorem jhM (hi lo y q r:Nat) (hh:hi < y) (hlo:lo < B64) (hy:y < B64) (hq:q=(hi*B64+lo) / y) (hr:r=(hi*B64+lo) % y) (W:World) (n:Nat):
  Calls Tryz.prog 170 #[.int .u64 (hi:Int), .int .u64 (lo:Int), .int .u64 (y:Int)] (W.drewN n) fun e w''=>e= .returned (.tuple #[.int .u64 (q:Int), .int .u64 (r:Int)])∧∃m,w''=W.drewN m:=
 (jeC hi lo y hh hlo hy _).mono fun e w' ⟨he,m,hm⟩=>⟨by rw [he,hq,hr],n+m,by rw [hm,World.drewN_drewN]⟩

theorem jh3 (hi lo y q r:Nat) (hh:hi < y) (hlo:lo < B64) (hy:y < B64) (hq:q=(hi*B64+lo) / y) (hr:r=(hi*B64+lo) % y) (W:World) (a n:Nat):
  Calls Tryz.prog 170 #[.int .u64 (hi:Int), .int .u64 (lo:Int), .int .u64 (y:Int)] (W.drewN (a+n)) fun e w''=>e= .returned (.tuple #[.int .u64 (q:Int), .int .u64 (r:Int)])∧∃m,w''=W.drewN (a+m):=
 (jeC hi lo y hh hlo hy _).mono fun e w' ⟨he,m,hm⟩=>⟨by rw [he,hq,hr],n+m,by rw [hm,World.drewN_drewN,Nat.add_assoc]⟩

theorem jlV (g j k m cu cv bv ov:Nat) (zs vs:List Nat) (w:World) (hz:RowAt w w g m zs) (hm:j+(k+2) < m) (hm2:m < 1099511627776) (hv:Wd w (some ⟨bv,ov,none⟩) (k+2) vs) (hne:bv≠g) (hN:StepNums zs vs j k)
  (he:dg zs (j+(k+2)) < dg vs (k+1)):
  Calls Tryz.prog 174 #[.slice (some ⟨g,j,none⟩) (k+2+1) cu, .slice (some ⟨bv,ov,none⟩) (k+2) cv] w (jd8 zs vs g j (k+2) m w):=by
 obtain ⟨b0,o0,e0,hbl,hcell⟩:=hv.at_ (by omega)
 injection e0 with e0
 injection e0 with e1 e2
 subst e1;subst e2
 obtain ⟨p0,_⟩:=hz.place (j:=j+(k+2)) (by omega)
 obtain ⟨p1,_⟩:=hz.place (j:=j+(k+1)) (by omega)
 obtain ⟨p2,_⟩:=hz.place (j:=j+k) (by omega)
 have c1:=hcell (k+1) (by omega)
 have c2:=hcell k (by omega)
 have HC:=qh hcell
 have u1:=jac hz.dig (j+(k+1))
 have u2:=jac hv.dig (k+1)
 have HZ:=qh hz
 have HV:=qh hv
 have HN:=qh hN
 obtain ⟨d0,hd⟩:∃q,q=(dg zs (j+(k+2))*B64+dg zs (j+(k+1))) / dg vs (k+1):=⟨_,rfl⟩
 obtain ⟨d,hee⟩:∃q,q=(dg zs (j+(k+2))*B64+dg zs (j+(k+1))) % dg vs (k+1):=⟨_,rfl⟩
 obtain ⟨e,he0⟩:∃q:Nat,q=0:=⟨_,rfl⟩
 have G0:Guess zs vs j k d0 (d+B64*e):=by rw [he0];exact jl4 hN hz.dig hv.dig he hd hee
 have hdl:d < B64:=by rw [hee];exact Nat.lt_trans (Nat.mod_lt _ hN.pos) u2
 have a0:=fun W n=>jhM (dg zs (j+(k+2))) (dg zs (j+(k+1))) (dg vs (k+1)) d0 d he u1 u2 hd hee W n
 have A0:=qh a0
 have a1:=fun W a n=>jh3 (dg zs (j+(k+2))) (dg zs (j+(k+1))) (dg vs (k+1)) d0 d he u1 u2 hd hee W a n
 have A1:=qh a1
 have HD:=qh hdl
 have HE:=qh he0
 have G:=qh G0
 have hge:decide (dg vs (k+1)≤dg zs (j+(k+2)))=false:=by rw [decide_eq_false_iff_not];omega
 have U1:=qh u1
 have U2:=qh u2
 clear hcell hz hv hN hd hee G0 he u1 u2 a0 a1 he0 hdl
 go_enter Tryz.func174,Tryz.ntmps174
 go_wp2
 go_quiet (fail)
 go_wp2
 go_quiet ((go_at_call 170;first|exact A1.out _ _ _|exact A0.out _ _))
 go_upto_block 0 with (fail)
 generalize hwq:World.drewN _ _=wq
 have HW:∃n,wq=w.drewN n:=by
  rw [←hwq]
  (first
    | exact ⟨_,rfl⟩
    | exact ⟨_,World.drewN_drewN _ _ _⟩
    | exact ⟨_,by rw [World.drewN_drewN]⟩)
 clear hwq
 have HG0:Hid (Guess zs vs j k d0 (d+B64*0)):=by rw [HE.out] at G;exact G
 go_cut [6] (fun s6 wx=>∃q m:Nat,s6= .int .u64 (q:Int)∧wx=w.drewN m∧Guessed zs vs j k q)
 case first=>
  (try clear hk0 hkm)
  go_wp2
  go_loopw [6,7,8] (fun a b c wx=>∃q r o m:Nat,a= .int .u64 (q:Int)∧b= .int .u64 (r:Int)∧c= .int .u64 (o:Int)∧wx=w.drewN m∧r < B64∧o≤1∧Guess zs vs j k q (r+B64*o)) (fun a _ c _=>2*(intOf a).toNat+1 - (intOf c).toNat)
  case atStart=>
   obtain ⟨n,hn⟩:=HW
   exact ⟨d0,d,0,n,rfl,rfl,rfl,hn,HD.out,by omega,HG0.out⟩
  case round=>
   obtain ⟨q,r,o,m,rfl,rfl,rfl,rfl,hr,ho,hG⟩:=hrel
   rcases Nat.eq_zero_or_pos o with h0|h0
   ·subst h0
    have w2:=jac HV.out.dig k
    have w3:=jac HZ.out.dig (j+k)
    have W2:=qh w2
    have W3:=qh w3
    clear w2 w3
    have hq:=hG.lt
    obtain ⟨hi,ehi⟩:∃x,x=q*dg vs k / B64:=⟨_,rfl⟩
    obtain ⟨lo,elo⟩:∃x,x=q*dg vs k % B64:=⟨_,rfl⟩
    have hprod:hi*B64+lo=q*dg vs k:=by rw [ehi,elo];exact Nat.div_add_mod' _ _
    have hlo:lo < B64:=by rw [elo];exact Nat.mod_lt _ ja9
    have M1:=qh ehi
    have M2:=qh elo
    have HQ:=qh hq
    have HG:=qh hG
    have HR:=qh hr
    have HP:=qh hprod
    have HLO:=qh hlo
    clear ehi elo hG hr hprod hlo hq
    rcases Nat.lt_trichotomy hi r with h1|h1|h1
    ·have h1':(hi:Int) < (r:Int):=by omega
     have hend:=jqV (u:=dg zs (j+k)) HP.out HLO.out h1
     have HEND:=qh hend
     clear hend h1
     go_wp2_with (go_at_call 153;((with_reducible refine (jat _ _ _ _ HQ.out W2.out M1.out M2.out _).mono ?_);rintro e w1 ⟨rfl,rfl⟩))
     go_meet
     exact ⟨q,m,rfl,rfl,HG.out.ge,HG.out.lt,jbP HN.out HV.out.dig HG.out HEND.out⟩
    ·have h1':¬(hi:Int) < (r:Int):=by omega
     have h1b:((hi:Int)==(r:Int))=true:=by rw [beq_iff_eq];omega
     rcases Nat.lt_or_ge (dg zs (j+k)) lo with h2|h2
     ·have h2':¬(lo:Int)≤(dg zs (j+k):Int):=by omega
      have hgo:=jqN HP.out h1 h2
      clear h1 h2
      obtain ⟨gg,g1⟩:=jdN HN.out HZ.out.dig HG.out hgo
      obtain ⟨q',hq'⟩:∃x,x=q - 1:=⟨_,rfl⟩
      rw [←hq'] at gg
      have hqq:IntKind.u64.wrap ((q:Int) - 1)=(q':Int):=jht q 1 q' g1 HQ.out hq'
      have hql:q' < q:=by omega
      have HQL:=qh hql
      obtain ⟨d',hd'⟩:∃x,x=(r+dg vs (k+1)) % B64:=⟨_,rfl⟩
      obtain ⟨e',he'⟩:∃x,x=(r+dg vs (k+1)) / B64:=⟨_,rfl⟩
      have a1:=fun w=>jbt _ _ d' e' hd' he' w
      have el:e'≤1:=by
       rw [he'];refine Nat.le_of_lt_succ ((Nat.div_lt_iff_lt_mul ja9).2 ?_)
       have:=HR.out;have:=U2.out;rw [ja8] at*;omega
      have gg0:Guess zs vs j k q' (r+dg vs (k+1)):=by rw [Nat.mul_zero,Nat.add_zero] at gg;exact gg
      have gg':Guess zs vs j k q' (d'+B64*e'):=by
       rw [hd',he',Nat.mod_add_div]
       exact gg0
      have GG:=qh gg'
      have HD':Hid (d' < B64):=by show _ < _;rw [hd'];exact Nat.mod_lt _ ja9
      clear gg gg0 gg' hd' he' hgo hq' g1 hql
      go_wp2_with (go_at_call 153;((with_reducible refine (jat _ _ _ _ HQ.out W2.out M1.out M2.out _).mono ?_);rintro e w1 ⟨rfl,rfl⟩))
      have HQQ:=qh hqq
      clear hqq
      refine ⟨?_,by have:=HQL.out;simp [intOf];omega⟩
      (repeat apply Exists.intro);exact ⟨⟨q',d',e',m,rfl,rfl,rfl,rfl,HD'.out,el,GG.out⟩,rfl⟩
     ·have h2':(lo:Int)≤(dg zs (j+k):Int):=by omega
      have hend:=jqT HP.out h1 h2
      have HEND:=qh hend
      clear hend h1 h2
      go_wp2_with (go_at_call 153;((with_reducible refine (jat _ _ _ _ HQ.out W2.out M1.out M2.out _).mono ?_);rintro e w1 ⟨rfl,rfl⟩))
      go_meet
      exact ⟨q,m,rfl,rfl,HG.out.ge,HG.out.lt,jbP HN.out HV.out.dig HG.out HEND.out⟩
    ·have h1':¬(hi:Int) < (r:Int):=by omega
     have h1b:((hi:Int)==(r:Int))=false:=by rw [beq_eq_false_iff_ne];omega
     have hgo:=jqX (u:=dg zs (j+k)) HP.out W3.out h1
     clear h1
     obtain ⟨gg,g1⟩:=jdN HN.out HZ.out.dig HG.out hgo
     obtain ⟨q',hq'⟩:∃x,x=q - 1:=⟨_,rfl⟩
     rw [←hq'] at gg
     have hqq:IntKind.u64.wrap ((q:Int) - 1)=(q':Int):=jht q 1 q' g1 HQ.out hq'
     have hql:q' < q:=by omega
     have HQL:=qh hql
     obtain ⟨d',hd'⟩:∃x,x=(r+dg vs (k+1)) % B64:=⟨_,rfl⟩
     obtain ⟨e',he'⟩:∃x,x=(r+dg vs (k+1)) / B64:=⟨_,rfl⟩
     have a1:=fun w=>jbt _ _ d' e' hd' he' w
     have el:e'≤1:=by
      rw [he'];refine Nat.le_of_lt_succ ((Nat.div_lt_iff_lt_mul ja9).2 ?_)
      have:=HR.out;have:=U2.out;rw [ja8] at*;omega
     have gg0:Guess zs vs j k q' (r+dg vs (k+1)):=by rw [Nat.mul_zero,Nat.add_zero] at gg;exact gg
     have gg':Guess zs vs j k q' (d'+B64*e'):=by
      rw [hd',he',Nat.mod_add_div]
      exact gg0
     have GG:=qh gg'
     have HD':Hid (d' < B64):=by show _ < _;rw [hd'];exact Nat.mod_lt _ ja9
     clear gg gg0 gg' hd' he' hgo hq' g1 hql
     go_wp2_with (go_at_call 153;((with_reducible refine (jat _ _ _ _ HQ.out W2.out M1.out M2.out _).mono ?_);rintro e w1 ⟨rfl,rfl⟩))
     have HQQ:=qh hqq
     clear hqq
     refine ⟨?_,by have:=HQL.out;simp [intOf];omega⟩
     (repeat apply Exists.intro);exact ⟨⟨q',d',e',m,rfl,rfl,rfl,rfl,HD'.out,el,GG.out⟩,rfl⟩
   ·have e1:o=1:=by omega
    subst e1
    have hend:=jf2 HV.out.dig hG (by omega)
    have HEND:=qh hend
    have HG:=qh hG
    clear hend hG hr
    go_wp2
    go_meet
    exact ⟨q,m,rfl,rfl,HG.out.ge,HG.out.lt,jbP HN.out HV.out.dig HG.out HEND.out⟩
 case rest=>
  obtain ⟨q,nd,rfl,rfl,hg⟩:=hcut
  have HGD:=qh hg
  clear hg hge HW G HD HE U1 U2 p0 p1 p2 c1 c2
  (try clear a0)
  go_wp2
  go_loopw [11,12,105] (fun b c i wx=>∃(i' b' c':Nat) (ws:List Nat),i'≤k+2∧i= .int .i64 (i':Int)∧b= .int .u64 (b':Int)∧c= .int .u64 (c':Int)∧RowAt w wx g m ws∧TakeInv zs ws vs j q i' b' c') (fun _ _ i _=>k+2 - (intOf i).toNat)
  case atStart=>exact ⟨0,0,0,zs,by omega,rfl,rfl,rfl,HZ.out.drewN nd,TakeInv.start _ _ _ _⟩
  case round=>
   obtain ⟨i,bw,cy,ws,hi,rfl,rfl,rfl,hR,hT⟩:=hrel
   rcases Nat.lt_or_ge i (k+2) with hlt|hge
   ·obtain ⟨pl1,pl2⟩:=hR.place (j:=j+i) (by omega)
    have vl:=hR.other hbl hne (HC.out i hlt)
    have qB:=HGD.out.lt
    have vB:=jac HV.out.dig i
    have uB:=jac hR.dig (j+i)
    have hbw:=hT.bor
    have hth:=jlz (c:=cy) qB vB hT.car
    obtain ⟨h,eh⟩:∃x,x=q*dg vs i / B64:=⟨_,rfl⟩
    obtain ⟨l,el⟩:∃x,x=q*dg vs i % B64:=⟨_,rfl⟩
    rw [←eh,←el] at hth
    obtain ⟨d1,ed1⟩:∃x,x=(l+cy) % B64:=⟨_,rfl⟩
    obtain ⟨e1,ee1⟩:∃x,x=(l+cy) / B64:=⟨_,rfl⟩
    rw [←ed1,←ee1] at hth
    have hd1:d1 < B64:=by rw [ed1];exact Nat.mod_lt _ ja9
    obtain ⟨d2,ed2⟩:∃x,x=(dg ws (j+i)+B64 - d1 - bw) % B64:=⟨_,rfl⟩
    obtain ⟨e2,ee2⟩:∃x,x=if dg ws (j+i) < d1+bw then 1 else 0:=⟨_,rfl⟩
    have hsd:=jcd (c:=bw) (show dg ws (j+i) < B64 from uB) hd1 hbw
    rw [←ed2,←ee2] at hsd
    have he2:e2≤1:=by rw [ee2];split <;> omega
    have hd2:d2 < B64:=by rw [ed2];exact Nat.mod_lt _ ja9
    have hS:=hT.step (by rw [HZ.out.len];omega) hth.1 hth.2 hsd he2
    have hP:=hR.put (j+i) d2 hd2
    have b1:(h:Int)+(e1:Int) < 18446744073709551616:=by have:=hth.2;rw [ja8] at this;omega
    have a1:=fun w=>jbu l cy d1 e1 ed1 ee1 w
    have a2:=fun w=>jc0 (dg ws (j+i)) d1 bw d2 e2 hbw ed2 ee2 w
    have i0:(0:Int)≤(i:Int):=by omega
    have i1:(i:Int) < (k:Int)+2:=by omega
    have i2:(i:Int) < (k:Int)+2+1:=by omega
    have QB:=qh qB
    have VB:=qh vB
    have HS:=qh hS
    have HPP:=qh hP
    have M1:=qh eh
    have M2:=qh el
    have HLT:=qh hlt
    clear qB vB uB hbw hth eh el ed1 ee1 hd1 ed2 ee2 hsd he2 hd2 hS hP hR hT hlt hi
    go_wp2_with (go_at_call 153;((with_reducible refine (jat _ _ _ _ QB.out VB.out M1.out M2.out _).mono ?_);rintro e w1 ⟨rfl,rfl⟩))
    refine ⟨?_,by have:=HLT.out;simp [intOf];omega⟩
    (repeat apply Exists.intro);exact ⟨⟨i+1,e2,h+e1,_,by have:=HLT.out;omega,by go_num,rfl,by simp only [Int.natCast_add],HPP.out,HS.out⟩,rfl⟩
   ·have e:i=k+2:=by omega
    subst e
    obtain ⟨pl1,pl2⟩:=hR.place (j:=j+(k+2)) (by omega)
    have uB:=jac hR.dig (j+(k+2))
    have hbw:=hT.bor
    obtain ⟨d2,ed2⟩:∃x,x=(dg ws (j+(k+2))+B64 - cy - bw) % B64:=⟨_,rfl⟩
    obtain ⟨e2,ee2⟩:∃x,x=if dg ws (j+(k+2)) < cy+bw then 1 else 0:=⟨_,rfl⟩
    have hsd:=jcd (c:=bw) (show dg ws (j+(k+2)) < B64 from uB) hT.car hbw
    rw [←ed2,←ee2] at hsd
    have he2:e2≤1:=by rw [ee2];split <;> omega
    have hd2:d2 < B64:=by rw [ed2];exact Nat.mod_lt _ ja9
    have hP:=hR.put (j+(k+2)) d2 hd2
    have a2:=fun w=>jc0 (dg ws (j+(k+2))) cy bw d2 e2 hbw ed2 ee2 w
    have HSD:=qh hsd
    have HT:=qh hT
    have HR:=qh hR
    have HPP:=qh hP
    have HD2:=qh hd2
    clear uB hbw ed2 ee2 hsd hd2 hP hR hT hi hge
    rcases Nat.eq_zero_or_pos e2 with e0|e0
    ·have E0:=qh e0
     have b1:((e2:Int)==0)=true:=by rw [beq_iff_eq];omega
     clear e0 he2
     go_wp2
     go_ret
     exact jdS rfl (HT.out.right (by rw [HZ.out.len];exact hm) HGD.out.ge (jiZ HN.out) HSD.out E0.out) HPP.out
    ·have e1:e2=1:=by omega
     have E1:=qh e1
     have b1:((e2:Int)==0)=false:=by rw [beq_eq_false_iff_ne];omega
     clear e0 he2 e1
     go_wp2
     go_loopw [17,157] (fun c i wx=>∃(i' c':Nat) (xs:List Nat),i'≤k+2∧i= .int .i64 (i':Int)∧c= .int .u64 (c':Int)∧RowAt w wx g m xs∧BackInv (ws.set (j+(k+2)) d2) xs vs j i' c') (fun _ i _=>k+2 - (intOf i).toNat)
     case atStart=>exact ⟨0,0,_,by omega,rfl,rfl,HPP.out,BackInv.start _ _ _⟩
     case round=>
      obtain ⟨i,c3,xs,hi,rfl,rfl,hR,hT⟩:=hrel
      rcases Nat.lt_or_ge i (k+2) with hlt|hge
      ·obtain ⟨pl1,pl2⟩:=hR.place (j:=j+i) (by omega)
       have vl:=hR.other hbl hne (HC.out i hlt)
       have vB:=jac HV.out.dig i
       have uB:=jac hR.dig (j+i)
       have hbw:=hT.car
       obtain ⟨d3,ed3⟩:∃x,x=(dg xs (j+i)+dg vs i+c3) % B64:=⟨_,rfl⟩
       obtain ⟨e3,ee3⟩:∃x,x=(dg xs (j+i)+dg vs i+c3) / B64:=⟨_,rfl⟩
       have hd3:d3 < B64:=by rw [ed3];exact Nat.mod_lt _ ja9
       have hsd:d3+B64*e3=dg xs (j+i)+dg vs i+c3:=by rw [ed3,ee3,Nat.mod_add_div]
       have he3:e3≤1:=by rw [ee3];exact jeo uB vB hbw
       have hS:=hT.step (by rw [List.length_set,HT.out.len,HZ.out.len];omega) hsd he3
       have hP:=hR.put (j+i) d3 hd3
       have a1:=fun w=>jdD (dg xs (j+i)) (dg vs i) c3 d3 e3 hbw ed3 ee3 w
       have i0:(0:Int)≤(i:Int):=by omega
       have i1:(i:Int) < (k:Int)+2:=by omega
       have i2:(i:Int) < (k:Int)+2+1:=by omega
       have HS:=qh hS
       have HP3:=qh hP
       have HLT:=qh hlt
       clear vB uB hbw ed3 ee3 hd3 hsd he3 hS hP hR hT hlt hi
       go_wp2
       go_region
       go_wp2
       exact ⟨⟨i+1,e3,_,by have:=HLT.out;omega,by go_num,rfl,HP3.out.drewN 1,HS.out⟩,by have:=HLT.out;simp [intOf];omega⟩
      ·have e:i=k+2:=by omega
       subst e
       obtain ⟨pl1,pl2⟩:=hR.place (j:=j+(k+2)) (by omega)
       have hq0:=HT.out.q_pos (fun i=>jac HR.out.dig i) HSD.out E1.out HD2.out
       obtain ⟨w1,w2⟩:=HT.out.wrong (by rw [HZ.out.len];exact hm) (jiZ HN.out) HV.out.dig (fun i=>jac hR.dig i) (fun i=>jac HR.out.dig i) HGD.out.end_ hq0 HSD.out E1.out HD2.out hT
       have ed:dg xs (j+(k+2))=d2:=by rw [hT.out _ (by omega),jaS (by rw [HT.out.len,HZ.out.len];exact hm)]
       have a3:=jol (dg xs (j+(k+2))) c3 0 (by rw [ed];exact w1.symm)
       have hP:=hR.put (j+(k+2)) 0 ja9
       obtain ⟨q',hq'⟩:∃x,x=q - 1:=⟨_,rfl⟩
       rw [←hq'] at w2
       have hqq:IntKind.u64.wrap ((q:Int) - 1)=(q':Int):=jht q 1 q' hq0 HGD.out.lt hq'
       have W2:=qh w2
       have HP3:=qh hP
       clear w1 w2 ed hP hR hT hq' hi hge hq0
       go_wp2
       go_ret
       exact jdS rfl W2.out HP3.out

theorem jlP (g j k m cu cv bv ov:Nat) (zs vs:List Nat) (w:World) (hz:RowAt w w g m zs) (hm:j+(k+2) < m) (hm2:m < 1099511627776) (hv:Wd w (some ⟨bv,ov,none⟩) (k+2) vs) (hne:bv≠g) (hN:StepNums zs vs j k):
  Calls Tryz.prog 174 #[.slice (some ⟨g,j,none⟩) (k+2+1) cu, .slice (some ⟨bv,ov,none⟩) (k+2) cv] w (jd8 zs vs g j (k+2) m w):=by
 have h:=jpU hN hv.dig
 rcases Nat.lt_or_ge (dg zs (j+(k+2))) (dg vs (k+1)) with h1|h1
 ·exact jlV g j k m cu cv bv ov zs vs w hz hm hm2 hv hne hN h1
 ·exact jk2 g j k m cu cv bv ov zs vs w hz hm hm2 hv hne hN (by omega)
end Go.Proofs.YthciialjockjmaaGreatDoor
