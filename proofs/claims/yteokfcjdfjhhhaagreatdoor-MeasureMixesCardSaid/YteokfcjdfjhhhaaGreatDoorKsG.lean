/- Parts. -/
import Derived.Test.YteokfcjdfjhhhaaGreatDoorGuG
set_option linter.all false
set_option maxRecDepth 100000
set_option maxHeartbeats 8000000
namespace Go.Proofs.YteokfcjdfjhhhaaGreatDoor
open Go Go.RowKit

section
variable {w:World} {x y:Rat} {k m:Nat}
theorem jqB (hx:Dz k x) (hk:0 < k) (hk2:k≤9000) (h0:x≠0):Calls Tryz.prog 104 #[bs (tq x)] w (QP x⁻¹ w):=by
 have hn:x.num≠0:=fun e=>h0 (Rat.num_eq_zero.1 e)
 obtain ⟨s1,hs1⟩:∃b,decide (x.num < 0)=b:=⟨_,rfl⟩;have HP:=qh (fun W=>(jfa (w:=W) hx hk (by omega)).mono fun e w' h=>h.at hs1 (show decide ((x.den:Int) < 0)=false by rw [decide_eq_false_iff_not];omega));obtain ⟨X,hX⟩:∃X,tq x=X:=⟨_,rfl⟩;rw [hX] at HP ⊢;obtain ⟨R,hR⟩:∃R,tq x⁻¹=R:=⟨_,rfl⟩
 have HF:=qh (fun W (u v:Value) (h:Rz W u (x.den:Int) (k+3)) (h':Rz W v x.num (k+3))=>(show Calls Tryz.prog 94 #[u,v] W fun e w'=>e= .returned (bs R)∧Below W.heap.size W w' from by
  have:=jbm h h' (by omega) (by omega) hn
  rwa [←Rat.inv_def,hR] at this))
 unfold QP;rw [hR];clear hx hk hk2 h0 hn hs1 hX hR;go_enter Tryz.func104,Tryz.ntmps104;go_wp2_with first|(go_at_call 90;(with_reducible refine (HP.out _).mono ?_);rintro e3 w3 ⟨A,i,c,B,j,d,rfl,h3,hb3⟩;have _:=bm hb3;have H3:=qh h3;clear h3)|(go_at_call 94;(with_reducible refine mz (HF.out _ _ _ (H3.out.2.below bi) (H3.out.1.below bi)) fun w4 hb4 _=> ?_))
 go_ret;exact ⟨rfl,bi⟩
theorem jrd (hx:Dz k x) (hy:Dz m y) (hk:0 < k) (hm:0 < m) (hk2:k≤9000) (hm2:m≤9000) (h0:y≠0):Calls Tryz.prog 45 #[bs (tq x),bs (tq y)] w (QP (x / y) w):=by
 have HN:=qh (fun W=>jqB (w:=W) hy hm hm2 h0);have HA:=qh (fun W=>jpe (w:=W) hx (hy.inv h0) hk hm hk2 hm2);rw [←Rat.div_def] at HA;unfold QP at HN HA ⊢;obtain ⟨X,hX⟩:∃m,tq x=m:=⟨_,rfl⟩;obtain ⟨Y,hY⟩:∃m,tq y=m:=⟨_,rfl⟩;obtain ⟨Z,hZ⟩:∃m,tq y⁻¹=m:=⟨_,rfl⟩;obtain ⟨r,hr⟩:∃r,tq (x / y)=r:=⟨_,rfl⟩;rw [hY,hZ] at HN;rw [hX,hZ,hr] at HA;rw [hX,hY,hr];clear hx hy hk hm hk2 hm2 h0 hX hY hZ hr;go_enter Tryz.func45,Tryz.ntmps45;go_wp2_with (first|(go_at_call 104;(with_reducible refine mo0 (HN.out _) fun w1 hb1 hc1 hf1 _=> ?_))|(go_at_call 52;(with_reducible refine mo0 (HA.out _) fun w2 hb2 hc2 hf2 _=> ?_)))
 go_ret;exact ⟨rfl,bi⟩
theorem joQ {g:Int} (hg:jbq x=g) (hx:Dz k x) (hk:0 < k) (hk2:k≤50000):Calls Tryz.prog 47 #[bs (tq x)] w fun e w'=>e= .returned (.int .i64 g)∧Below w.heap.size w w':=by
 have hL:=jmw hx hk hk2;obtain ⟨a,ha⟩:∃a,jpM (tq x)=a:=⟨_,rfl⟩;have hal:a.length≤100002:=by rw [←ha];unfold jpM;rw [List.length_take];omega
 have hs:jpl a=Lib.decDigits x.num.natAbs:=by rw [←ha];exact joy x
 have HN:=qh (fun W=>jqu (w:=W) ha (by omega));have HA:=qh (fun W=>jq8 (w:=W) hs (by omega));have HD:=qh (fun W=>jqO (w:=W) (jrq x) (by omega))
 have hg2:(if (decide (600 < (Lib.decDigits x.num.natAbs).length) || decide (600 < (Lib.decDigits x.den).length))=true then (4:Int) else 0)=g:=by
  rw [←hg];unfold jbq jdY lng;rfl
 obtain ⟨X,hX⟩:∃X,tq x=X:=⟨_,rfl⟩;obtain ⟨s,hs2⟩:∃s,Lib.decDigits x.num.natAbs=s:=⟨_,rfl⟩;obtain ⟨t,ht2⟩:∃s,Lib.decDigits x.den=s:=⟨_,rfl⟩;rw [hX] at HN HD ⊢;rw [hs2] at HA hg2;rw [ht2] at HD hg2;obtain ⟨b1,hb1⟩:∃b,decide (600 < s.length)=b:=⟨_,rfl⟩;obtain ⟨b2,hb2⟩:∃b,decide (600 < t.length)=b:=⟨_,rfl⟩;rw [hb1,hb2] at hg2;have q1:decide ((600:Int) < (s.length:Int))=b1:=by rw [←hb1];exact decide_eq_decide.2 (by omega)
 have q2:decide ((600:Int) < (t.length:Int))=b2:=by rw [←hb2];exact decide_eq_decide.2 (by omega)
 clear hg hx hk hk2 hL ha hal hs hX hs2 ht2 hb1 hb2;cases b1 <;> cases b2 <;> (simp only [Bool.or_true,Bool.or_false,Bool.true_or,if_pos,Bool.false_eq_true,if_false] at hg2;subst hg2)
 all_goals
  go_enter Tryz.func47,Tryz.ntmps47;go_wp2_with (first|(go_at_call 49;(with_reducible refine mo0 (HN.out _) fun w2 hb2 hc2 hf2 _=> ?_))|(go_at_call 48;(with_reducible refine mo0 (HA.out _) fun w3 hb3 hc3 hf3 _=> ?_))|(go_at_call 50;(with_reducible refine mo0 (HD.out _) fun w4 hb4 hc4 hf4 _=> ?_)))
  go_ret;exact ⟨rfl,bi⟩
end
end Go.Proofs.YteokfcjdfjhhhaaGreatDoor
namespace Go.Proofs.YteokfcjdfjhhhaaGreatDoor
open Go Go.RowKit Go.Sort

theorem Blk.grown {w w':World} {g t:Nat} {cs:Array Value} {row:Option Nat} (h:Blk w g t cs) (hg:w.grownBy w' row) (hne:some g≠row):Blk w' g t cs:=(hg.block g h.lt hne).trans h
theorem jko {w w':World} {row:Option Nat} (h:w.drew.grownBy w' row):w.grownBy w' row:=⟨h.os,h.tape,h.output,h.size,h.block⟩
section
variable {w:World} {A:Option Addr} {n d c k:Nat} {ls:List Lay} {ks:List (List UInt8)} {g0:List UInt8} {mass:Int}
set_option maxHeartbeats 16000000 in
theorem jrO (h:RMix w A n ls d) (h0:0 < n) (hg:(ls.getD 0 jaA).grain=g0) (hM:jcd ls=mass) (hM9:mass≤999999999) (ho:Ordered ks) (hm:∀x,x∈ks↔jbF (jal ls) x=true) (hkl:0 < ks.length∧ks.length≤10000) (hsm:∀x∈ks,jbq (tot (jal ls) x / ((mass:Int):Rat))=0):
  Calls Tryz.prog 13 #[.slice A n c] w fun e w'=>∃g d,e= .returned (.tuple #[.agg #[bs g0, .int .i64 mass, .slice (some ⟨g,0,none⟩) ks.length d], .int .i64 0])∧w.heap.size≤g∧Pv w' (some ⟨g,0,none⟩) ks.length (ks.map (fun x=>(x,tq (tot (jal ls) x / ((mass:Int):Rat)))))∧Below w.heap.size w w':=by
 obtain ⟨outs,hout⟩:∃outs,ks.map (fun x=>(x,tq (tot (jal ls) x / ((mass:Int):Rat))))=outs:=⟨_,rfl⟩;have HOUT:=qh hout;rw [hout];clear hout;have HLOT:=qh (fun W (hW:Below w.heap.size w W)=>jp6 (c:=c) (h.below hW));have H:=qh h;have H0:=qh h0;have HG:=qh hg;have HM:=qh hM;have HMM:=qh hM9;have HO:=qh (And.intro ho hm);have HKL:=qh hkl;have HSM:=qh hsm;have h00:=h0;obtain ⟨b,o,B0,d0,rfl,k0,k1,k2,kp⟩:=h.view.low h0 (Below.refl _ _);rw [hg,Nat.zero_mul,Nat.add_zero] at k0;have zb:b < w.heap.size:=World.block_lt_of_cell? w _ k0;clear h h0 hg hM hM9 ho hm hkl hsm k1 k2 kp;go_enter Tryz.func13,Tryz.ntmps13;go_wp2
 go_loopw [5] (fun u wr=>∃(i:Nat),u= .int .i64 (i:Int)∧i≤n∧Below w.heap.size w wr∧Blk wr w.heap.size 29 (lyc [] 0 none 0 0)∧Blk wr (w.heap.size+1) 29 (lyc g0 (jcd (ls.take i)) none 0 0)) (fun u _=>n - (intOf u).toNat)
 case atStart=>
  refine ⟨0,rfl,Nat.zero_le _,bi,(Blk.new w _ _).alloc _, ?_⟩;have:=Blk.new (w.alloc (.cells (lyc [] 0 none 0 0) 29)) 29 (lyc g0 0 none 0 0);rw [World.size_alloc] at this;exact this
 case round=>
  obtain ⟨i,rfl,hin,hb,b1,b2⟩:=hrel;have _:=bm hb;have B1:=qh b1;have B2:=qh b2;have hn100:=H.out.nle;clear b1 b2;by_cases hi:i < n
  ·have p0:decide (i < n)=true:=by simpa using hi
   have HI:=qh hi;obtain ⟨_,_,B,e,h',l0,l1,l2,lp⟩:=H.out.view.low hi hb;cases h'
   have hl:=H.out.layer hi;have hsn:=jdX (l:=ls) (i:=i) (d:=jaA) (r:=ls.getD i jaA) (by rw [H.out.view.len];exact hi) rfl;have hms:=jej (ls.getD i jaA) (ls.take i);rw [←hsn] at hms;have hma:=jdW (l:=ls.take i) (fun x hx=>H.out.ok x (List.mem_of_mem_take hx));have hle:(ls.take i).length≤100:=by rw [List.length_take];omega
   have c0:=B2.out.cell 0;have c1:=B2.out.cell 1;have c2:=B2.out.cell 2;have cf:=B2.out.frozen;have z2:=B2.out.lt;simp only [List.getElem?_toArray,List.getElem?_cons_zero,List.getElem?_cons_succ] at c0 c1 c2;obtain ⟨z,hz⟩:∃z,(ls.getD i jaA).mass=z:=⟨_,rfl⟩;obtain ⟨S,hS⟩:∃S,jcd (ls.take i)=S:=⟨_,rfl⟩;rw [hz] at l1 hl hms;rw [hS] at c1 hms hma B2;have q5:IntKind.i64.wrap (S+z)=S+z:=by have:=hl.2.1;simp [IntKind.wrap,IntKind.bits,IntKind.signed];omega
   have HMS:=qh hms;have zb2:b < wr.heap.size:=World.block_lt_of_cell? wr _ l1;clear l0 l2 lp hl hsn hms hma hle hz hS;go_upto_region 5 with (fail)
   refine ja3 (fun w'=>Below wr.heap.size wr w') [9] (by kernel_rfl) ?_;refine tb 0 (.pointer (some ⟨w.heap.size+1,1,none⟩)) [] rfl (by kernel_rfl) pk rfl (by intros;go_simp) bq0 ?_;refine tb 1 (.int .i64 S) [] rfl (by kernel_rfl) pk rfl (by intros;go_simp) bq0 ?_;refine tb 2 (.slice (some ⟨b,o,none⟩) n c) [] rfl (by kernel_rfl) pk rfl (by intros;go_simp) bq0 ?_;refine tb 3 (.int .i64 (i:Int)) [] rfl (by kernel_rfl) pk rfl (by intros;go_simp) bq0 ?_;refine tb 4 (.pointer (some ⟨b,o+i*3,none⟩)) [] rfl (by kernel_rfl) pk rfl (by intros;go_simp) bq0 ?_;refine tb 5 (.pointer (some ⟨b,o+i*3+1,none⟩)) [] rfl (by kernel_rfl) pk rfl (by intros;go_simp) bq0 ?_;refine tb 6 (.int .i64 z) [] rfl (by kernel_rfl) pk rfl (by intros;go_simp) bq0 ?_;refine tb 7 (.int .i64 (S+z)) [] rfl (by kernel_rfl) pk rfl (by intros;go_simp) bq0 ?_;refine tb 8 (.pointer (some ⟨w.heap.size+1,1,none⟩)) [] rfl (by kernel_rfl) pk rfl (by intros;go_simp) bq0 ?_;simp only [ppq];refine rd1 9 (by kernel_rfl) rfl (fun K hK=> ?_);go_simp;refine hK.out _ _ (fun h=>(h (by decide)).elim) ?_;clear hK K;refine ja2 (by kernel_rfl) ?_ _;go_wp2;have B3:=B2.out.set_ 1 (.int .i64 (S+z));exact ⟨⟨i+1,by simp,HI.out,bD (bC hb (show w.heap.size≤w.heap.size+1 by omega)),(B1.out.far (by simp) _),by rw [HMS.out];exact B3⟩,by have:=HI.out;simp [intOf];omega⟩
  ·have p0:decide (i < n)=false:=by simp;omega
   have e1:i=n:=by omega
   rw [List.take_of_length_le (by rw [H.out.view.len];omega),HM.out] at B2
   have hm1:1≤mass:=by
    have:=(jdW H.out.ok).1;rw [H.out.view.len,HM.out] at this;have:=H0.out;omega
   clear hi hin e1;go_wp2_with (go_at_call 16;(with_reducible refine (HLOT.out _ bi).mono ?_);rintro e3 w3 ⟨A3,c3,ks3,rfl,h3,hb3⟩;have _:=bm hb3;obtain rfl:ks3=ks:=jcc h3.ord HO.out.1 (fun x=>(h3.keys x).trans (HO.out.2 x).symm);have H3:=qh h3;clear h3)
   have B3:=qh (B1.out.below hb3);have B4:=qh (B2.out.below hb3);have hbw3:=ja1 hb hb3;have hw1:=B2.out.lt;obtain ⟨g3,rfl,_,hge⟩:=H3.out.own.full HKL.out.1;obtain ⟨_,_,e3,hpv⟩:=H3.out.own.pv jbM HKL.out.1;cases e3
   obtain ⟨_,_,e3,hz3,hcell⟩:=hpv.at_ HKL.out.1;cases e3
   have HC3:=qh hcell;clear hcell hpv HLOT h00 k0
   go_loopw [7] (fun u wx=>∃(j:Nat) (Ao:Option Addr) (co:Nat),u= .int .i64 (j:Int)∧j≤ks3.length∧w3.grownBy wx (some (w.heap.size+1))∧Blk wx (w.heap.size+1) 29 (lyc g0 mass Ao j co)∧jc0 wx w3.heap.size (.slice Ao j co) j (outs.take j)) (fun u _=>ks3.length - (intOf u).toNat)
   case atStart=>exact ⟨0,none,0,rfl,Nat.zero_le _,⟨rfl,rfl,rfl,Nat.le_refl _,fun _ _ _=>rfl⟩,B4.out,World.ownsRow_nil _ _ _ _⟩
   case round=>
    obtain ⟨j,Ao,co,rfl,hjl,hg,b4,how⟩:=hrel;have HOW:=qh how;have B5:=qh b4;have hkl:=HKL.out.2;have hbx:Below w.heap.size w wr:=Below.trans hbw3 (ja8 hg hbw3.size (fun k hk=>by cases hk;omega));have hzx:w.heap.size+1 < wr.heap.size:=b4.lt;clear how b4;by_cases hj:j < ks3.length
    ·have p1:decide (j < ks3.length)=true:=by simpa using hj
     have HJ:=qh hj;obtain ⟨c0,c1⟩:=HC3.out j hj;have hne3:some g3≠some (w.heap.size+1):=fun e=>by have:=Option.some.inj e;omega
     replace c0:=hg.cell c0 hne3;replace c1:=hg.cell c1 hne3;rw [Nat.zero_add] at c0 c1;rw [jdn hj] at c0 c1;dsimp only at c0 c1;have hyk:ks3.getD j []∈ks3:=jbu hj;have hgv:=HSM.out _ hyk;have hall:=H.out.all (ks3.getD j [])
     have HPR:Hid (outs.take j++[(ks3.getD j [],tq (tot (jal ls) (ks3.getD j []) / ((mass:Int):Rat)))]=outs.take (j+1)):=qh (by
      rw [jdX (l:=outs) (i:=j) (d:=([],[])) (r:=(ks3.getD j [],tq (tot (jal ls) (ks3.getD j []) / ((mass:Int):Rat)))) (by rw [←HOUT.out,List.length_map];exact hj) (by rw [←HOUT.out];exact jjK hj)])
     obtain ⟨y,hy⟩:∃y,ks3.getD j []=y:=⟨_,rfl⟩;rw [hy] at c0 c1 hyk hgv hall HPR;obtain ⟨v,hv⟩:∃v,tot (jal ls) y=v:=⟨_,rfl⟩;rw [hv] at c1 hgv hall HPR;obtain ⟨m,hmm⟩:∃m:Nat,mass=(m:Int):=⟨mass.toNat,by omega⟩;have hM9:=HMM.out;subst hmm;have hnu:=H.out.nums
     have hnl:n*(d+10)+1≤8990:=by
      have h1:=H.out.lim;rw [Nat.add_mul] at h1;omega
     have hm0:(((m:Nat):Int):Rat)≠0:=by simp;omega
     have d9:Dz 9 (((m:Nat):Int):Rat):=jes (by omega);have HF:=qh (fun W=>jhs (w:=W) (n:=m) (by omega));have HDV:=qh (fun W=>jrd (w:=W) hall d9 (by omega) (by omega) (by omega) (by omega) hm0);have HLG:=qh (fun W=>joQ (w:=W) hgv (hall.div d9 hm0) (by omega) (by omega));obtain ⟨z,hz⟩:∃z,v / (((m:Nat):Int):Rat)=z:=⟨_,rfl⟩;unfold QP at HF HDV;rw [hz] at HDV HLG HPR;obtain ⟨T,hT⟩:∃T,tq z=T:=⟨_,rfl⟩;obtain ⟨V,hV⟩:∃T,tq v=T:=⟨_,rfl⟩;obtain ⟨M,hMq⟩:∃T,tq (((m:Nat):Int):Rat)=T:=⟨_,rfl⟩;rw [hT] at HDV HLG HPR;rw [hV] at HDV c1;rw [hMq] at HDV HF;have m0:=B5.out.cell 0;have m1:=B5.out.cell 1;have m2:=B5.out.cell 2;simp only [List.getElem?_toArray,List.getElem?_cons_zero,List.getElem?_cons_succ] at m0 m1 m2;have z3:g3 < wr.heap.size:=World.block_lt_of_cell? wr _ c1;clear hyk hgv hall hy hv hM9 hnu hnl hm0 d9 hz hT hV hMq;go_upto_region 10 with (fail)
     refine ja3 (fun w'=>Below wr.heap.size wr w') [] (by kernel_rfl) ?_;refine tb 0 (.slice (some ⟨g3,0,none⟩) ks3.length c3) [] rfl (by kernel_rfl) pk rfl (by intros;go_simp) bq0 ?_;refine tb 1 (.int .i64 (j:Int)) [] rfl (by kernel_rfl) pk rfl (by intros;go_simp) bq0 ?_;refine tb 2 (.pointer (some ⟨g3,j*2,none⟩)) [] rfl (by kernel_rfl) pk rfl (by intros;go_simp) bq0 ?_;refine tb 3 (.pointer (some ⟨g3,j*2+1,none⟩)) [] rfl (by kernel_rfl) pk rfl (by intros;go_simp) bq0 ?_;refine tb 4 (bs V) [] rfl (by kernel_rfl) pk rfl (by intros;go_simp) bq0 ?_;refine tb 5 (.pointer (some ⟨w.heap.size+1,1,none⟩)) [] rfl (by kernel_rfl) pk rfl (by intros;go_simp) bq0 ?_;refine tb 6 (.int .i64 (m:Int)) [] rfl (by kernel_rfl) pk rfl (by intros;go_simp) bq0 ?_;simp only [ppq];refine rd1 7 (by kernel_rfl) rfl (fun K hK=> ?_);go_simp;go_wp2_with (go_at_call 46;(with_reducible refine mo0 (HF.out _) fun w5 hb5 hc5 hf5 _=> ?_))
     have sS5:=qh (bst bq0 hb5);refine hK.out _ _ (fun _=>sS5.out) ?_;clear hK K;refine rd1 8 (by kernel_rfl) rfl (fun K hK=> ?_);go_simp;go_wp2_with (go_at_call 45;(with_reducible refine mo0 (HDV.out _) fun w6 hb6 hc6 hf6 _=> ?_))
     have sS6:=qh (bst sS5.out hb6);refine hK.out _ _ (fun _=>sS6.out) ?_;clear hK K;refine rd1 9 (by kernel_rfl) rfl (fun K hK=> ?_);go_simp;refine hK.out _ _ (fun _=>bi) ?_;clear hK K;refine ja2 (by kernel_rfl) ?_ _;go_upto_region 13 with (go_at_call 47;(with_reducible refine mo0 (HLG.out _) fun w7 hb7 hc7 hf7 _=> ?_))
     have hb7w:Below wr.heap.size wr w7:=ja1 sS6.out hb7;have s2:w7.cell? ⟨w.heap.size+1,2,none⟩=some (.slice Ao j co):=ja5 hb7w m2;have s0:w7.cell? ⟨g3,j*2,none⟩=some (bs y):=ja5 hb7w c0;refine ja3 (fun w'=>w'.cell? ⟨w.heap.size+1,2,none⟩=some (.slice Ao j co)∧w'.cell? ⟨g3,j*2,none⟩=some (bs y)) [12] (by kernel_rfl) ?_;refine tk 0 (.pointer (some ⟨w.heap.size+1,2,none⟩)) [] rfl (by kernel_rfl) pk (by rfl) ?_ ⟨s2,s0⟩ ?_
     ·intro w' hS';obtain ⟨h1,h2⟩:=hS';go_simp
     simp only [ppq];refine tk 1 (.slice Ao j co) [] rfl (by kernel_rfl) pk (by rfl) ?_ ⟨s2,s0⟩ ?_
     ·intro w' hS';obtain ⟨h1,h2⟩:=hS';go_simp
     simp only [ppq];refine tk 2 (.slice (some ⟨g3,0,none⟩) ks3.length c3) [] rfl (by kernel_rfl) pk (by rfl) ?_ ⟨s2,s0⟩ ?_
     ·intro w' hS';obtain ⟨h1,h2⟩:=hS';go_simp
     simp only [ppq];refine tk 3 (.int .i64 (j:Int)) [] rfl (by kernel_rfl) pk (by rfl) ?_ ⟨s2,s0⟩ ?_
     ·intro w' hS';obtain ⟨h1,h2⟩:=hS';go_simp
     simp only [ppq];refine tk 4 (.pointer (some ⟨g3,j*2,none⟩)) [] rfl (by kernel_rfl) pk (by rfl) ?_ ⟨s2,s0⟩ ?_
     ·intro w' hS';obtain ⟨h1,h2⟩:=hS';go_simp
     simp only [ppq];refine tk 5 (.pointer (some ⟨g3,j*2,none⟩)) [] rfl (by kernel_rfl) pk (by rfl) ?_ ⟨s2,s0⟩ ?_
     ·intro w' hS';obtain ⟨h1,h2⟩:=hS';go_simp
     simp only [ppq];refine tk 6 (bs y) [] rfl (by kernel_rfl) pk (by rfl) ?_ ⟨s2,s0⟩ ?_
     ·intro w' hS';obtain ⟨h1,h2⟩:=hS';go_simp
     simp only [ppq];refine tk 7 (bs T) [] rfl (by kernel_rfl) pk (by rfl) ?_ ⟨s2,s0⟩ ?_
     ·intro w' hS';obtain ⟨h1,h2⟩:=hS';go_simp
     simp only [ppq];refine tk 8 (.agg #[bs y,bs T]) [] rfl (by kernel_rfl) pk (by rfl) ?_ ⟨s2,s0⟩ ?_
     ·intro w' hS';obtain ⟨h1,h2⟩:=hS';go_simp
     simp only [ppq];have hb8:Below wr.heap.size wr (w7.alloc (.cells #[bs y,bs T] 42)):=ja4 hb7w _;have hrow:=jca HOW.out;have hB3:=B4.out.lt;have hne:some (w.heap.size+1)≠(Value.slice Ao j co).ownBlock:=fun e=>by have:=hrow _ e.symm;omega
     have hneg:some g3≠(Value.slice Ao j co).ownBlock:=fun e=>by have:=hrow _ e.symm;omega
     have B6:=qh (B5.out.below hb8);refine rd1 9 (by kernel_rfl) rfl (fun K hK=> ?_);go_simp;refine hK.out _ _ (fun _=>⟨jas s2 _,jas s0 _⟩) ?_;clear hK K;refine rd1 10 (by kernel_rfl) rfl (fun K hK=> ?_);rw [if_pos (by rfl)];refine jb6 (base:=w3.heap.size) (n:=j) (m:=1) (N:=j+1) (ps:=outs.take j) (qs:=[(y,T)]) _ _ rfl rfl rfl rfl (World.ownsRow.drew (HOW.out.below hb8)) (by omega) (by omega) rfl (Nat.le_trans hg.size hb8.size) rfl (fun i hi=>by obtain rfl:i=0:=(by omega);simp;done) ?_;intro A9 c9 w9 ho9 hg9 hl9;replace hg9:(w7.alloc (.cells #[bs y,bs T] 42)).grownBy w9 (Value.slice Ao j co).ownBlock:=jko hg9;have B9:=qh (B6.out.grown hg9 hne);have t2:=hg9.cell (jas s2 _) hne;have t0:=hg9.cell (jas s0 _) hneg;have tf:=B9.out.frozen;have z9:=B9.out.lt;refine hK.out _ _ (fun _=>⟨t2,t0⟩) ?_;clear hK K;refine rd1 11 (by kernel_rfl) rfl (fun K hK=> ?_);go_simp;refine hK.out _ _ (fun _=>⟨t2,t0⟩) ?_;clear hK K;refine rd1 12 (by kernel_rfl) rfl (fun K hK=> ?_);go_simp;refine hK.out _ _ (fun h=>(h (by decide)).elim) ?_;clear hK K;refine ja2 (by kernel_rfl) ?_ _;go_wp2
     have hne9:some (w.heap.size+1)≠(Value.slice A9 (j+1) c9).ownBlock:=fun e=>by
      rcases hl9 with h|h
      ·exact hne (e.trans h)
      ·rw [h] at e;have hzz:=hb8.size;have h1:=Option.some.inj e;have h2:(w7.alloc (.cells #[bs y,bs T] 42)).drew.heap.size=(w7.alloc (.cells #[bs y,bs T] 42)).heap.size:=rfl;rw [h2] at h1;omega
     have hg8:w3.grownBy (w7.alloc (.cells #[bs y,bs T] 42)) (some (w.heap.size+1)):=(hg.trans (jdi hb7w _)).trans (World.grownBy_alloc _ _ _)
     exact ⟨⟨j+1,A9,c9,by simp,HJ.out,(jh8 hg8 hg9 hrow).trans (jb4 _),B9.out.set_ 2 _,by
      rw [←HPR.out]
      exact World.ownsRow.kept ho9 (jb4 _) (by
       cases hv:(Value.slice A9 (j+1) c9).ownBlock with
       | none=>simp
       | some g=>exact .inr (fun e=>hne9 (by rw [hv];exact e.symm)))⟩,by have:=HJ.out;simp [intOf];omega⟩
    ·have p1:decide (j < ks3.length)=false:=by simp;omega
     have e:j=ks3.length:=by omega
     subst e;have how:=HOW.out;rw [List.take_of_length_le (by rw [←HOUT.out,List.length_map];omega)] at how;have hrow:=jca how;have hB3:=B4.out.lt;have BR:=B3.out.grown hg (by simp);have s0:=BR.cell 0;have s1:=BR.cell 1;have s2:=BR.cell 2;have sf:=BR.frozen;have m0:=B5.out.cell 0;have m1:=B5.out.cell 1;have m2:=B5.out.cell 2;simp only [List.getElem?_toArray,List.getElem?_cons_zero,List.getElem?_cons_succ] at s0 s1 s2 m0 m1 m2;have hner:some w.heap.size≠(Value.slice Ao ks3.length co).ownBlock:=fun e=>by have:=hrow _ e.symm;omega
     have HK1:=qh HKL.out.1;have HLEN:Hid (outs.length=ks3.length):=qh (by rw [←HOUT.out,List.length_map]);clear hj HOW;go_wp2;refine bodyPost_ret (v:= .tuple #[.agg #[bs g0, .int .i64 mass, .slice Ao ks3.length co], .int .i64 0]) (by simp [results,Tryz.results13,go_sem,s0,s1,s2,sf]) rfl ?_;have hg3w:wr.grownBy (((wr.setCell ⟨w.heap.size,0,none⟩ (bs g0)).setCell ⟨w.heap.size,1,none⟩ (.int .i64 mass)).setCell ⟨w.heap.size,2,none⟩ (.slice Ao ks3.length co)) (some w.heap.size):=((jb4 _).trans (jb4 _)).trans (jb4 _)
     have how3:=World.ownsRow.kept how hg3w (by
      cases hv:(Value.slice Ao ks3.length co).ownBlock with
      | none=>simp
      | some g=>exact .inr (fun e=>hner (by rw [hv];exact e.symm)))
     obtain ⟨A',d',e',hv⟩:=jc0.pv how3 HLEN.out HK1.out;cases e'
     obtain ⟨g,e2,_,hgb⟩:=jc0.full how3 HK1.out;subst e2;exact ⟨g,_,rfl,Nat.le_trans hbw3.size hgb,hv,bC (bC (bC hbx (Nat.le_refl _)) (Nat.le_refl _)) (Nat.le_refl _)⟩
end
end Go.Proofs.YteokfcjdfjhhhaaGreatDoor
