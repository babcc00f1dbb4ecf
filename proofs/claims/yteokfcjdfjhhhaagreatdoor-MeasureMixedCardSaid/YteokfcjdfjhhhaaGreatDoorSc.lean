/- Parts. -/
import Derived.Test.YteokfcjdfjhhhaaGreatDoorSaG
set_option linter.all false
set_option maxRecDepth 100000
set_option maxHeartbeats 8000000
namespace Go.Proofs.YteokfcjdfjhhhaaGreatDoor
open Go Go.RowKit Go.Sort

theorem jtX {x:Int} {n:Nat} (h:0≤x) (h0:0 < n):∃r:Nat,x.tmod (n:Int)=(r:Int)∧r < n:=
 ⟨(x % (n:Int)).toNat,by rw [Int.tmod_eq_emod_of_nonneg h,Int.toNat_of_nonneg (Int.emod_nonneg _ (by omega))],by have:=Int.emod_lt_of_pos x (show (0:Int) < n by omega);have:=Int.emod_nonneg x (show (n:Int)≠0 by omega);omega⟩
section
variable {w:World} {A:Option Addr} {n c:Nat} {ls:List Lay} {x:Int}
theorem jtz (hE:Env w) (hn:n=0∨5 < n):Calls Tryz.prog 4 #[.slice A n c, .int .u8 x] w fun e w'=>e= .returned (.bool true)∧Below w.heap.size w w':=by
 have HW:Hid (∀W,Below w.heap.size w W→Calls Tryz.prog 5 #[] W fun e w'=>e= .returned (.bool true)∧Below W.heap.size W w'):=qh (fun W hb=>jjY (hE.below hb));rcases hn with hn|hn
 ·subst hn;clear hE;go_enter Tryz.func4,Tryz.ntmps4;go_wp2_with (first|(go_at_call 5;(with_reducible refine mo0 (HW.out _ bi) fun w1 hb1 hc1 hf1 _=> ?_)))
  go_ret;exact ⟨rfl,bi⟩
 ·have q0:((n:Int)==0)=false:=by rw [beq_eq_false_iff_ne];omega
  have q1:decide ((5:Int) < (n:Int))=true:=by rw [decide_eq_true_iff];omega
  clear hE hn;go_enter Tryz.func4,Tryz.ntmps4;go_wp2_with (first|(go_at_call 5;(with_reducible refine mo0 (HW.out _ bi) fun w1 hb1 hc1 hf1 _=> ?_)))
  go_ret;exact ⟨rfl,bi⟩
theorem jtm (hE:Env w) (hv:Lv w A n ls) (hn:0 < n∧n≤5) (hg:jcX n ls=false):Calls Tryz.prog 4 #[.slice A n c, .int .u8 x] w fun e w'=>e= .returned (.bool true)∧Below w.heap.size w w':=by
 have HW:Hid (∀W,Below w.heap.size w W→Calls Tryz.prog 5 #[] W fun e w'=>e= .returned (.bool true)∧Below W.heap.size W w'):=qh (fun W hb=>jjY (hE.below hb));have q0:((n:Int)==0)=false:=by rw [beq_eq_false_iff_ne];omega
 have q1:decide ((5:Int) < (n:Int))=false:=by rw [decide_eq_false_iff_not];omega
 have HLI:=qh (fun W (hb:Below w.heap.size w W)=>jld (c:=c) hg (hv.below hb));clear hE hn hg hv;go_enter Tryz.func4,Tryz.ntmps4;go_wp2_with (first|(go_at_call 5;(with_reducible refine mo0 (HW.out _ bi) fun w1 hb1 hc1 hf1 _=> ?_))|(go_at_call 6;(with_reducible refine mo0 (HLI.out _ bi) fun w2 hb2 hc2 hf2 _=> ?_)))
 go_ret;exact ⟨rfl,bi⟩
theorem jtF {K:Int} (hE:Env w) (hv:Lv w A n ls) (hn:0 < n∧n≤5) (hg:jcX n ls=true) (hK:jg9 (keysOf (jal ls)) ls=K) (hK0:K≠0):Calls Tryz.prog 4 #[.slice A n c, .int .u8 x] w fun e w'=>e= .returned (.bool true)∧Below w.heap.size w w':=by
 have HW:Hid (∀W,Below w.heap.size w W→Calls Tryz.prog 5 #[] W fun e w'=>e= .returned (.bool true)∧Below W.heap.size W w'):=qh (fun W hb=>jjY (hE.below hb));have q0:((n:Int)==0)=false:=by rw [beq_eq_false_iff_ne];omega
 have q1:decide ((5:Int) < (n:Int))=false:=by rw [decide_eq_false_iff_not];omega
 have q2:(K != 0)=true:=by rw [bne_iff_ne];exact hK0
 have HLI:=qh (fun W (hb:Below w.heap.size w W)=>jld (c:=c) hg (hv.below hb));have HC:=qh (fun W (hb:Below w.heap.size w W)=>jla (c:=c) hK (hv.below hb) (by omega) (fun x hx p hp=>(((jm4 hg).2.2 x hx).2 p hp).2));clear hE hn hg hv hK hK0;go_enter Tryz.func4,Tryz.ntmps4;go_wp2_with (first|(go_at_call 5;(with_reducible refine mo0 (HW.out _ bi) fun w1 hb1 hc1 hf1 _=> ?_))|(go_at_call 6;(with_reducible refine mo0 (HLI.out _ bi) fun w2 hb2 hc2 hf2 _=> ?_))|(go_at_call 12;(with_reducible refine mo0 (HC.out _ bi) fun w3 hb3 hc3 hf3 _=> ?_)))
 go_ret;exact ⟨rfl,bi⟩
theorem jtW {l:List UInt8} (h:few 4 l=true):Dz 4 (numQ l):=by
 obtain ⟨x,hx⟩:=jtK h;rw [(hx.is (by omega)).numQ];have h1:=hx.num;have h2:=hx.den;exact ⟨Nat.lt_of_lt_of_le (jdI _) (Nat.pow_le_pow_right (by omega) (by omega)),Nat.lt_of_lt_of_le (jdI _) (Nat.pow_le_pow_right (by omega) (by omega))⟩
theorem jtV {W:World} {g:List UInt8} {M:Int} {B:Option Addr} {l d b:Nat} {x:Lay} (h1:x.grain=g) (h2:x.mass=M) (h3:x.shares.length=l) (c0:W.cell? ⟨b,0,none⟩=some (bs g)) (c1:W.cell? ⟨b,1,none⟩=some (.int .i64 M)) (c2:W.cell? ⟨b,2,none⟩=some (.slice B l d)) (hp:Pv W B l x.shares):Lv W (some ⟨b,0,none⟩) 1 [x]:=by
 refine ⟨rfl,fun _=>⟨b,0,rfl,World.block_lt_of_cell? W _ c0,fun j hj=> ?_⟩⟩;obtain rfl:j=0:=by omega
 subst h1 h2 h3;exact ⟨B,d,c0,c1,c2,hp⟩
theorem jtR {W:World} {g g':List UInt8} {M M':Int} {B B':Option Addr} {l l' d d' b:Nat} {x x':Lay} (h1:x.grain=g) (h2:x.mass=M) (h3:x.shares.length=l) (h1':x'.grain=g') (h2':x'.mass=M') (h3':x'.shares.length=l')
  (c0:W.cell? ⟨b,0,none⟩=some (bs g)) (c1:W.cell? ⟨b,1,none⟩=some (.int .i64 M)) (c2:W.cell? ⟨b,2,none⟩=some (.slice B l d)) (c3:W.cell? ⟨b,3,none⟩=some (bs g')) (c4:W.cell? ⟨b,4,none⟩=some (.int .i64 M')) (c5:W.cell? ⟨b,5,none⟩=some (.slice B' l' d')) (hp:Pv W B l x.shares) (hp':Pv W B' l' x'.shares):Lv W (some ⟨b,0,none⟩) 2 [x,x']:=by
 refine ⟨rfl,fun _=>⟨b,0,rfl,World.block_lt_of_cell? W _ c0,fun j hj=> ?_⟩⟩;subst h1 h2 h3 h1' h2' h3'
 match j,hj with
 | 0,_=>exact ⟨B,d,c0,c1,c2,hp⟩
 | 1,_=>exact ⟨B',d',c3,c4,c5,hp'⟩
theorem jtE {g:List UInt8} (h:Mixb g ls) (hz:∀y,Dz 80 (tot (jal ls) y / ((jcd ls:Int):Rat))):LayIn (jt5 ls)∧∀p∈(jt5 ls).shares,Dz 80 (numQ p.2):=by
 have h1:=jan h.layer;have h2:=jav h1.2.2.2;refine ⟨⟨?_,by have:=h2.1.2;omega,fun p hp=> ?_⟩,fun p hp=> ?_⟩
 ·unfold R64;have:=h1.2.1;have:=h1.2.2.1;omega
 ·have h3:=(h2.2 p hp).1;simp [jaZ] at h3;obtain ⟨y,_,rfl⟩:=List.mem_map.1 hp;have h4:=jrr (hz y) (by omega);exact ⟨by omega,by dsimp only;omega⟩
 ·obtain ⟨_,_,k3⟩:=h.val hp;rw [k3];exact hz _
theorem jtN {d:Nat} {kk:List (List UInt8)} {L:List (List UInt8×List UInt8)} (h:RMix w A n ls d) (h0:0 < n) (hk:keysOf (jal ls)=kk) (hL:lots kk (jal ls)=L):
  Calls Tryz.prog 16 #[.slice A n c] w fun e w'=>∃A' c',e= .returned (.slice A' kk.length c')∧Pv w' A' kk.length L∧Below w.heap.size w w':=
 (jp6 h).mono fun e w' ⟨A',c',ks,he,hq,hb⟩=>by
   have e1:ks=kk:=by rw [←hk];exact jcc hq.ord (jc4 _) (fun x=>(hq.keys x).trans (jbw _ x).symm)
   subst e1;have hp:=jhr h h0;rw [hk] at hp;obtain ⟨A2,c2,e2,hv⟩:=hq.own.pv jbM hp;cases e2
   rw [hL] at hv;exact ⟨A',c',he,hv,hb⟩
def jtY (x:Lay):Prop:=x.shares.length≤4∧∀p∈x.shares,few 4 p.2=true
set_option maxHeartbeats 16000000 in
theorem jtw (hE:Env w) (wx:0≤x∧x < 256) (hv:Lv w A n ls) (hc:n≤c) (hr:∀x∈ls,R64 x.mass) (hn:0 < n∧n≤5) (hg:jcX n ls=true) (hK:jg9 (keysOf (jal ls)) ls=0):
  Calls Tryz.prog 4 #[.slice A n c, .int .u8 x] w fun e w'=>e= .returned (.bool true)∧Below w.heap.size w w':=by
 have HW:Hid (∀W,Below w.heap.size w W→Calls Tryz.prog 5 #[] W fun e w'=>e= .returned (.bool true)∧Below W.heap.size W w'):=qh (fun W hb=>jjY (hE.below hb));have q0:((n:Int)==0)=false:=by rw [beq_eq_false_iff_ne];omega
 have q1:decide ((5:Int) < (n:Int))=false:=by rw [decide_eq_false_iff_not];omega
 have hll:=(jm4 hg).2.2;have HLI:=qh (fun W (hb:Below w.heap.size w W)=>jld (c:=c) hg (hv.below hb));have HC:=qh (fun W (hb:Below w.heap.size w W)=>jla (c:=c) hK (hv.below hb) (by omega) (fun x hx p hp=>((hll x hx).2 p hp).2));have HLA:Hid (∀x∈ls,LayIn x):=qh (fun x hx=>⟨hr x hx,by have:=(hll x hx).1;omega,fun p hp=>by have:=(hll x hx).2 p hp;omega⟩);have HE:=qh hE;have HV:=qh hv;have HN:=qh (And.intro hn (And.intro hc wx));have HK:=qh hK;obtain ⟨b,o,B0,d0,rfl,k0,k1,k2,kp⟩:=hv.low hn.1 (Below.refl _ _);have zb:b < w.heap.size:=World.block_lt_of_cell? w _ k0;clear hE hv hc hr hn hg hK hll k0 k1 k2 kp wx;go_enter Tryz.func4,Tryz.ntmps4;go_wp2_with (first|(go_at_call 5;(with_reducible refine mo0 (HW.out _ bi) fun w1 hb1 hc1 hf1 _=> ?_))|(go_at_call 6;(with_reducible refine mo0 (HLI.out _ bi) fun w2 hb2 hc2 hf2 _=> ?_))|(go_at_call 12;(with_reducible refine mo0 (HC.out _ bi) fun w3 hb3 hc3 hf3 _=> ?_)))
 have hb0:=ja1 (ja1 hb1 hb2) hb3;clear hb1 hb2 hb3 hc1 hc2 hc3 hf1 hf2 hf3
 go_loopw [5] (fun u wr=>∃(i:Nat),u= .int .i64 (i:Int)∧i≤n∧Below w.heap.size w wr∧∀y∈ls.take i,jtY y) (fun u _=>n - (intOf u).toNat)
 case atStart=>exact ⟨0,rfl,Nat.zero_le _,hb0,fun y hy=>by simp at hy⟩
 case round=>
  obtain ⟨i,rfl,hin,hb,hf⟩:=hrel;have _:=bm hb
  rename World=>wo
  have HF:=qh hf;have hn5:=HN.out.1.2;clear hf;by_cases hi:i < n
  ·have p0:decide (i < n)=true:=by simpa using hi
   have HI:=qh hi;obtain ⟨_,_,B,e,e1,k0,k1,k2,kp⟩:=HV.out.low hi (Below.refl _ _);cases e1
   have HP:=qh kp;have HC2:=qh k2;obtain ⟨l,hl⟩:∃x,(ls.getD i jaA).shares.length=x:=⟨_,rfl⟩;have HLL:=qh hl;rw [hl] at HP HC2
   have hl70:l≤64:=by
    have hm0:jku ls=0:=by
     have hk:=HK.out;rw [jfr] at hk;exact Classical.byContradiction fun h=>h (by rwa [if_pos h] at hk)
    rw [←hl];exact (jav (jan (jay (jer hm0).1 _ (jbu (d:=jaA) (by rw [HV.out.len];exact hi)))).2.2.2).1.2
   clear k0 k1 k2 kp hl hi;have hii:=HI.out;go_wp2
   go_loopw [6] (fun u wr=>∃(k:Nat),u= .int .i64 (k:Int)∧k≤l∧k≤4∧Below w.heap.size w wr∧∀p∈(ls.getD i jaA).shares.take k,few 4 p.2=true) (fun u _=>l - (intOf u).toNat)
   case atStart=>exact ⟨0,rfl,Nat.zero_le _,by omega,hb,fun p hp=>by simp at hp⟩
   case round=>
    obtain ⟨k,rfl,hkl,hk4,hbo,hf⟩:=hrel;have _:=bm hbo;have HF2:=qh hf;have c2:=ja5 hbo HC2.out;clear hf hb;by_cases hk:k < l
    ·have p1:decide (k < l)=true:=by simpa using hk
     have HK2:=qh hk;by_cases h3:3 < k
     ·have p2:decide ((3:Int) < (k:Int))=true:=by rw [decide_eq_true_iff];omega
      clear h3;go_wp2;go_ret;exact ⟨rfl,bi⟩
     ·have p2:decide ((3:Int) < (k:Int))=false:=by rw [decide_eq_false_iff_not];omega
      obtain ⟨b',o',rfl,hbl',hcell⟩:=(HP.out.below hbo).at_ (by omega);obtain ⟨hx,hy⟩:=hcell k hk;have hsn:=jdX (l:=(ls.getD i jaA).shares) (i:=k) (d:=([],[])) (r:=(ls.getD i jaA).shares.getD k ([],[])) (by rw [HLL.out];exact hk) rfl;obtain ⟨x2,hx2⟩:∃x,((ls.getD i jaA).shares.getD k ([],[])).2=x:=⟨_,rfl⟩;rw [hx2] at hy;obtain ⟨f,hf⟩:∃f,few 4 x2=f:=⟨_,rfl⟩;have HFW:=qh (fun W=>jtT (w:=W) hf (by omega) (by omega))
      have HS2:Hid (f=true→∀p∈(ls.getD i jaA).shares.take (k+1),few 4 p.2=true):=qh (fun h p hp=>by
       rw [hsn,List.mem_append,List.mem_singleton] at hp;rcases hp with hp|rfl
       ·exact HF2.out p hp
       ·rw [hx2,hf];exact h)
      have HK4:Hid (k+1≤4):=qh (by omega);clear hcell hsn hx2 hf h3 hx;cases f
      ·go_wp2_with (go_at_call 15;(with_reducible refine mo0 (HFW.out _) fun w4 hb4 hc4 hf4 _=> ?_))
       go_ret;exact ⟨rfl,bi⟩
      ·replace HS2:=qh (HS2.out rfl);go_wp2_with (go_at_call 15;(with_reducible refine mo0 (HFW.out _) fun w4 hb4 hc4 hf4 _=> ?_))
       exact ⟨⟨k+1,by simp,HK2.out,HK4.out,bi,HS2.out⟩,by have:=HK2.out;simp [intOf];omega⟩
    ·have p1:decide (k < l)=false:=by simp;omega
     have HFI:Hid (∀y∈ls.take (i+1),jtY y):=qh (fun y hy=>by
      rw [jdX (l:=ls) (i:=i) (d:=jaA) (r:=ls.getD i jaA) (by rw [HV.out.len];exact HI.out) rfl,List.mem_append,List.mem_singleton] at hy;rcases hy with hy|rfl
      ·exact HF.out y hy
      ·have hf:=HF2.out;rw [List.take_of_length_le (by rw [HLL.out];omega)] at hf
       exact ⟨by rw [HLL.out];omega,hf⟩)
     clear hk hkl hk4;go_wp2
     go_roundw
     case rel=>exact ⟨i+1,by simp,HI.out,hbo,HFI.out⟩
     case measure=>have:=HI.out;simp [intOf];omega
  ·have p0:decide (i < n)=false:=by simp;omega
   have hf:=HF.out;rw [List.take_of_length_le (by rw [HV.out.len];omega)] at hf;clear hi hin HF;have hk:=HK.out;rw [jfr] at hk;have hm0:jku ls=0:=Classical.byContradiction fun h=>h (by rwa [if_pos h] at hk)
   obtain ⟨z1,z2,z3⟩:=jer hm0;obtain ⟨g,hg⟩:∃g,(ls.getD 0 jaA).grain=g:=⟨_,rfl⟩;rw [hg] at z2
   have hmf:Mixf g ls:=⟨jay z1,fun y hy=>Classical.byContradiction fun hc=>by
    have:jbX g ls=true:=List.any_eq_true.2 ⟨y,hy,by simpa using hc⟩
    exact absurd this (by rw [z2];simp),by rw [HV.out.len];exact HN.out.1.1,by rw [HV.out.len];exact HN.out.1.2,z3,fun y hy=>(hf y hy).1,fun y hy p hp=>jtW ((hf y hy).2 p hp)⟩
   have MF:=qh hmf;have MB:=qh (hmf.mixb HV.out);have hnn:=HN.out.1;have HM1:=qh (fun W (hW:Below w.heap.size w W)=>jti (c:=c) (HE.out.below hW) (HV.out.below hW) MB.out (by omega) HLA.out (d:=4) (by omega) (by omega) MF.out.dz);have htd:=MF.out.tdz HV.out
   have hl20:(keysOf (jal ls)).length≤20:=by
    have h1:=jlY (jc4 (jal ls)).nodup (fun x hx=>(jbw _ _).1 hx);have h2:=jt8 MF.out.four;have:=MF.out.five;omega
   obtain ⟨M,hM⟩:∃M,jcd ls=M:=⟨_,rfl⟩;obtain ⟨l,hl⟩:∃M,(keysOf (jal ls)).length=M:=⟨_,rfl⟩;obtain ⟨ps,hps⟩:∃M,jqA ls=M:=⟨_,rfl⟩;obtain ⟨L,hL⟩:∃M,lots (keysOf (jal ls)) (jal ls)=M:=⟨_,rfl⟩;have HCL:=qh (fun W B e (hp:Pv W B l ps)=>jtu (w:=W) (e:=e) MB.out hM hl (by omega) htd (by rw [hps];exact hp));have HL2:=qh (fun W (hW:Below w.heap.size w W)=>jtN (c:=c) ((MF.out.rmix HV.out).below hW) hnn.1 rfl hL)
   have HL1:=qh (fun W b1 B e (c0:W.cell? ⟨b1,0,none⟩=some (bs g)) (c1:W.cell? ⟨b1,1,none⟩=some (.int .i64 M)) (c2:W.cell? ⟨b1,2,none⟩=some (.slice B l e)) (hp:Pv W B l ps)=>(by
    have hv:Lv W (some ⟨b1,0,none⟩) 1 [jt5 ls]:=jtV hg hM (by rw [←hl];simp [jt5,jqA]) c0 c1 c2 (by rw [←hps] at hp;exact hp);have hsm:=jtv MB.out;have hkk:keysOf (jal [jt5 ls])=keysOf (jal ls):=jcc (jc4 _) (jc4 _) (fun x=>by rw [jbw,jbw,(MB.out.same x).1]);rw [hkk] at hsm
    have hR:RMix W (some ⟨b1,0,none⟩) 1 [jt5 ls] 80:=⟨hv,fun y hy=>by
     rw [List.mem_singleton.1 hy];exact MB.out.layer,fun y hy p hp=>by
     rw [List.mem_singleton.1 hy] at hp;obtain ⟨k1,k2,k3⟩:=MB.out.val hp
     rw [k3];exact htd _,by omega,by omega,by omega⟩
    have:=jtN (c:=1) hR (by omega) hkk (hsm.trans hL)
    exact this:Calls Tryz.prog 16 #[.slice (some ⟨b1,0,none⟩) 1 1] W fun e w'=>∃A' c',e= .returned (.slice A' (keysOf (jal ls)).length c')∧Pv w' A' (keysOf (jal ls)).length L∧Below W.heap.size W w'))
   have HXG:Hid ((jt5 ls).grain=g∧(jt5 ls).mass=M∧(jt5 ls).shares.length=l∧(jt5 ls).shares=ps):=qh ⟨hg,hM,by rw [←hl];simp [jt5,jqA],hps⟩;rw [hM,hl,hps] at HM1;rw [hl] at HL1 HL2 hl20;have hl64:l≤100000:=by omega
   obtain ⟨_,_,B9,d9,e9,k0,k1,k2,kp⟩:=HV.out.low hnn.1 (Below.refl _ _);cases e9
   rw [hg,Nat.zero_mul,Nat.add_zero] at k0;have HG0:=qh k0;have HKP:=qh (And.intro k1 (And.intro k2 kp));obtain ⟨r,hr1,hr2⟩:=jtX (n:=n) HN.out.2.2.1 hnn.1;have HR:=qh hr2;have HTD:=qh htd;have HP5:=qh (And.intro hM (And.intro hl (And.intro hps hg)));clear hk hm0 z1 z2 z3 hg hmf htd hM hl hps hL k0 k1 k2 kp hr2 hf hl20
   go_upto_region 15 with (first
    | (go_at_call 11;(with_reducible refine (HM1.out _ bi).mono ?_);rintro e5 w5 ⟨B5,d5,rfl,hv5,hb5⟩;obtain ⟨hc5,hf5,_⟩:=bc0 hb5;have HV5:=qh hv5;clear hv5)
    | ((go_at_call 10;(with_reducible refine mo0 (HCL.out _ _ _ (HV5.out.below bi)) fun w6 hb6 hc6 hf6 _=> ?_));(first|have y6_0:=szl (k:=w5.heap.size) hb6 (by first|go_size|fail)|have y6_0:=Nat.one_pos))
    | (go_at_call 16;(with_reducible show Calls _ _ #[.slice (some ⟨b,o,none⟩) _ _] _ _);(with_reducible refine (HL2.out _ bi).mono ?_);rintro e8 w8 ⟨A8,c8,rfl,hv8,hb8⟩;obtain ⟨hc8,hf8,_⟩:=bc0 hb8;(first|have y8_0:=szl (k:=w5.heap.size) hb8 (by first|go_size|fail)|have y8_0:=Nat.one_pos);have HV8:=qh hv8;clear hv8)
    | (go_at_call 16;go_loud (with_reducible refine (HL1.out (w6.alloc (.cells #[bs g, .int .i64 M, .slice B5 l d5] 29)) w6.heap.size B5 d5 (by simp) (by simp) (by simp) (HV5.out.below bi)).mono ?_);rintro e7 w7 ⟨A7,c7,rfl,hv7,hb7⟩;obtain ⟨hc7,hf7,_⟩:=bc0 hb7;(first|have y7_0:=szl (k:=w5.heap.size) hb7 (by first|go_size|fail)|have y7_0:=Nat.one_pos);have HV7:=qh hv7;clear hv7))
   have HSS:=qh (fun W (hW:Below w8.heap.size w8 W)=>jkK (c:=c7) (c':=c8) ((HV7.out.below hb8).below hW) (HV8.out.below hW) hl64);have bx:Below (w5.alloc (.cells (lyc g M B5 l d5) 29)).heap.size (w5.alloc (.cells (lyc g M B5 l d5) 29)) w8:=ja1 (ja1 hb6 (ja1 (ja4 (Below.refl _ _) _) hb7)) hb8;have b5:Below w.heap.size w w5:=ja1 hb hb5;have b8:Below w.heap.size w w8:=ja1 b5 (ja1 (ja4 (Below.refl _ _) _) bx);have BX:=qh ((Blk.new w5 29 (lyc g M B5 l d5)).below bx);have x0:=BX.out.cell 0;simp only [List.getElem?_toArray,List.getElem?_cons_zero,List.getElem?_cons_succ] at x0;have zx:=BX.out.lt;have g8:=ja5 b8 HG0.out;have z8:b < w8.heap.size:=World.block_lt_of_cell? w8 _ g8;have HP58:=qh (HV5.out.below (ja1 (ja4 (Below.refl _ _) _) bx));have hn0:=hnn.1;clear hb5 hb6 hb7 hb8 hc5 hc6 hc7 hc8 hf5 hf6 hf7 hf8 HL1 HL2 HCL HV7 HV8;refine ja3 (fun w'=>Below w8.heap.size w8 w') [] (by kernel_rfl) ?_;refine tb 0 (.slice A7 l c7) [] rfl (by kernel_rfl) pk rfl (by intros;go_simp) bq0 ?_;refine tb 1 (.slice A8 l c8) [] rfl (by kernel_rfl) pk rfl (by intros;go_simp) bq0 ?_;simp only [ppq];refine rd1 2 (by kernel_rfl) rfl (fun K hK=> ?_);go_simp;go_wp2_with (go_at_call 17;(with_reducible refine mo0 (HSS.out _ bq0) fun w9 hb9 hc9 hf9 _=> ?_))
   have sS9:=qh (bst bq0 hb9);refine hK.out _ _ (fun _=>sS9.out) ?_;clear hK K;refine rd1 3 (by kernel_rfl) rfl (fun K hK=> ?_);go_simp;refine hK.out _ _ (fun _=>bi) ?_;clear hK K;refine rd1 4 (by kernel_rfl) rfl (fun K hK=> ?_);go_simp;refine hK.out _ _ (fun _=>bi) ?_;clear hK K;refine tb 5 (.pointer (some ⟨w5.heap.size,0,none⟩)) [] rfl (by kernel_rfl) pk rfl (by intros;go_simp) sS9.out ?_;refine tb 6 (bs g) [] rfl (by kernel_rfl) pk rfl (by intros;go_simp) sS9.out ?_;refine tb 7 (.slice (some ⟨b,o,none⟩) n c) [] rfl (by kernel_rfl) pk rfl (by intros;go_simp) sS9.out ?_;refine tb 8 (.pointer (some ⟨b,o,none⟩)) [] rfl (by kernel_rfl) pk rfl (by intros;go_simp) sS9.out ?_;refine tb 9 (.pointer (some ⟨b,o,none⟩)) [] rfl (by kernel_rfl) pk rfl (by intros;go_simp) sS9.out ?_;refine tb 10 (bs g) [] rfl (by kernel_rfl) pk rfl (by intros;go_simp) sS9.out ?_;simp only [ppq];refine rd1 11 (by kernel_rfl) rfl (fun K hK=> ?_);go_simp;refine hK.out _ _ (fun _=>bi) ?_;clear hK K;refine rd1 12 (by kernel_rfl) rfl (fun K hK=> ?_);go_simp;refine hK.out _ _ (fun _=>bi) ?_;clear hK K;refine ja2 (by kernel_rfl) ?_ _;have m0:wrap64 x=x:=by have:=HN.out.2.2;unfold wrap64;omega
   by_cases hr0:r=0
   ·subst hr0;obtain ⟨x1,hx1⟩:∃y,ls.getD 0 jaA=y:=⟨_,rfl⟩
    have e1:ls.take 1=[x1]:=by
     have:=jdX (l:=ls) (i:=0) (d:=jaA) (r:=x1) (by rw [HV.out.len];exact hnn.1) hx1;simpa using this
    have hm1:x1∈ls:=by rw [←hx1];exact jbu (by rw [HV.out.len];exact hnn.1)
    obtain ⟨o1,o2,o3⟩:=jtO (MF.out.ok x1 hm1);have hc1:1≤c:=by have:=HN.out.2.1;omega
    have HMa:=qh (fun W (hW:Below w.heap.size w W)=>jti (c:=c) (HE.out.below hW) ((HV.out.below hW).take (m:=1) hnn.1) ((MF.out.take (m:=1) (by omega)).mixb (HV.out.take (m:=1) hnn.1)) (by omega) (fun y hy=>HLA.out y (List.mem_of_mem_take hy)) (d:=4) (by omega) (by omega) (MF.out.take (m:=1) (by omega)).dz);have ol:(keysOf (jal [x1])).length=x1.shares.length:=by rw [o2,List.length_map]
    rw [e1,o1,o3,ol] at HMa;obtain ⟨k1,k2,kp⟩:=HKP.out;rw [Nat.zero_mul,Nat.add_zero] at k1 k2;rw [hx1] at k1 k2 kp;have hl1:x1.shares.length≤100000:=by have:=MF.out.four x1 hm1;omega
    obtain ⟨z,hz⟩:∃z,x1.mass=z:=⟨_,rfl⟩;obtain ⟨l1,hl1e⟩:∃z,x1.shares.length=z:=⟨_,rfl⟩;rw [hz,hl1e] at HMa;rw [hz] at k1;rw [hl1e] at k2 kp hl1;have HKQ:=qh (And.intro k1 (And.intro k2 kp));have b9:=ja1 b8 sS9.out;clear hx1 e1 hm1 o1 o2 o3 ol hz hl1e k1 k2 kp HM1;go_upto_region 20 with (go_at_call 11;(with_reducible refine (HMa.out _ bi).mono ?_);rintro e10 w10 ⟨B10,d10,rfl,hv10,hb10⟩;obtain ⟨hc10,hf10,_⟩:=bc0 hb10;have HV10:=qh hv10;clear hv10)
    have by_:=Blk.new w10 29 (lyc g z B10 l1 d10);have y0:=by_.cell 0;have y1:=by_.cell 1;have y2:=by_.cell 2;have zy:=by_.lt;simp only [List.getElem?_toArray,List.getElem?_cons_zero,List.getElem?_cons_succ] at y0 y1 y2;have bV:Below w.heap.size w (w10.alloc (.cells (lyc g z B10 l1 d10) 29)):=ja4 (ja1 b9 hb10) _;have t0:=ja5 bV HG0.out;have t1:=ja5 bV HKQ.out.1;have t2:=ja5 bV HKQ.out.2.1;have zt:b < (w10.alloc (.cells (lyc g z B10 l1 d10) 29)).heap.size:=World.block_lt_of_cell? _ _ t0;have HSL:=qh (fun W (hW:Below (w10.alloc (.cells (lyc g z B10 l1 d10) 29)).heap.size (w10.alloc (.cells (lyc g z B10 l1 d10) 29)) W)=>jf4 (g:=g) (z:=z) (c:=d10) (c':=d9) (HV10.out.below (ja1 (ja4 (Below.refl _ _) _) hW)) ((HKQ.out.2.2.below bV).below hW) hl1);obtain ⟨V,hV⟩:∃V,w10.alloc (.cells (lyc g z B10 l1 d10) 29)=V:=⟨_,rfl⟩;simp only [lyc] at hV;simp only [lyc,hV] at y0 y1 y2 zy bV t0 t1 t2 zt HSL ⊢;clear by_ hV hb10 hc10 hf10 HMa HKP;refine ja3 (fun w'=>Below V.heap.size V w') [] (by kernel_rfl) ?_;refine tb 0 (.int .i64 0) [] rfl (by kernel_rfl) pk rfl (by intros;go_simp) bq0 ?_;simp only [ppq];refine rd1 1 (by kernel_rfl) rfl (fun K hK=> ?_);go_simp;refine hK.out _ _ (fun _=>bi) ?_;clear hK K;refine rd1 2 (by kernel_rfl) rfl (fun K hK=> ?_);go_simp;refine hK.out _ _ (fun _=>bi) ?_;clear hK K;refine tb 3 (ly g z B10 l1 d10) [] rfl (by kernel_rfl) pk rfl (by intros;go_simp) bq0 ?_;refine tb 4 (.slice (some ⟨b,o,none⟩) n c) [] rfl (by kernel_rfl) pk rfl (by intros;go_simp) bq0 ?_;refine tb 5 (.pointer (some ⟨b,o,none⟩)) [] rfl (by kernel_rfl) pk rfl (by intros;go_simp) bq0 ?_;refine tb 6 (ly g z B9 l1 d9) [] rfl (by kernel_rfl) pk rfl (by intros;go_simp) bq0 ?_;simp only [ppq];refine rd1 7 (by kernel_rfl) rfl (fun K hK=> ?_);go_simp;go_wp2_with (go_at_call 14;(with_reducible refine mo0 (HSL.out _ bq0) fun w11 hb11 hc11 hf11 _=> ?_))
    have sS11:=qh (bst bq0 hb11);refine hK.out _ _ (fun _=>sS11.out) ?_;clear hK K;refine rd1 8 (by kernel_rfl) rfl (fun K hK=> ?_);go_simp;refine hK.out _ _ (fun _=>bi) ?_;clear hK K;refine rd1 9 (by kernel_rfl) rfl (fun K hK=> ?_);go_simp;refine hK.out _ _ (fun _=>bi) ?_;clear hK K;refine ja2 (by kernel_rfl) ?_ _;go_wp2;go_ret;exact ⟨rfl,ja1 bV sS11.out⟩
   ·have hrp:0 < r:=by omega
    have hrn:=HR.out;have hcc:=HN.out.2.1;have hrc:r≤c:=by omega
    have hcr:¬c=r:=by omega
    have q3:((r:Int)==0)=false:=by rw [beq_eq_false_iff_ne];omega
    have q4:(r==0)=false:=by rw [beq_eq_false_iff_ne];omega
    have FA:=MF.out.take (m:=r) hrp;have FB:=MF.out.drop (m:=r) (by rw [HV.out.len];exact hrn);have VA:=HV.out.take (m:=r) (by omega);have VB:=HV.out.drop (m:=r) (by omega);have XA:=FA.mixb VA;have XB:=FB.mixb VB;obtain ⟨t1,t2⟩:=jtP XA XB;rw [List.take_append_drop] at t1 t2;obtain ⟨u1,u2⟩:=jtU t1 t2;obtain ⟨ya1,ya2⟩:=jtE XA (FA.tdz VA);obtain ⟨yb1,yb2⟩:=jtE XB (FB.tdz VB)
    have XC:Mixb g [jt5 (ls.take r),jt5 (ls.drop r)]:=by
     refine ⟨fun y hy=> ?_,fun y hy=> ?_,by simp,by rw [t1];exact MF.out.mass,by rw [u1];exact MB.out.lots,fun y=>by rw [(t2 y).2,t1];exact (HTD.out y).mono (by omega)⟩
     ·simp only [List.mem_cons,List.not_mem_nil,or_false] at hy;rcases hy with rfl|rfl
      ·exact XA.layer
      ·exact XB.layer
     ·simp only [List.mem_cons,List.not_mem_nil,or_false] at hy;rcases hy with rfl|rfl
      ·exact XA.g0
      ·exact XB.g0
    have HMa:=qh (fun W (hW:Below w.heap.size w W)=>jti (c:=c) (HE.out.below hW) (VA.below hW) XA (by omega) (fun y hy=>HLA.out y (List.mem_of_mem_take hy)) (d:=4) (by omega) (by omega) FA.dz);have HMb:=qh (fun W (hW:Below w.heap.size w W)=>jti (c:=c - r) (HE.out.below hW) (VB.below hW) XB (by omega) (fun y hy=>HLA.out y (List.mem_of_mem_drop hy)) (d:=4) (by omega) (by omega) FB.dz);obtain ⟨Ma,eMa⟩:∃M,jcd (ls.take r)=M:=⟨_,rfl⟩;obtain ⟨Mb,eMb⟩:∃M,jcd (ls.drop r)=M:=⟨_,rfl⟩;obtain ⟨la,ela⟩:∃M,(keysOf (jal (ls.take r))).length=M:=⟨_,rfl⟩;obtain ⟨lb,elb⟩:∃M,(keysOf (jal (ls.drop r))).length=M:=⟨_,rfl⟩;obtain ⟨pa,epa⟩:∃M,jqA (ls.take r)=M:=⟨_,rfl⟩;obtain ⟨pb,epb⟩:∃M,jqA (ls.drop r)=M:=⟨_,rfl⟩
    have HMc:=qh (fun W b1 B B' e e' (hW:Below w.heap.size w W) (c0:W.cell? ⟨b1,0,none⟩=some (bs g)) (c1:W.cell? ⟨b1,1,none⟩=some (.int .i64 Ma)) (c2:W.cell? ⟨b1,2,none⟩=some (.slice B la e)) (c3:W.cell? ⟨b1,3,none⟩=some (bs g)) (c4:W.cell? ⟨b1,4,none⟩=some (.int .i64 Mb)) (c5:W.cell? ⟨b1,5,none⟩=some (.slice B' lb e')) (hp:Pv W B la pa) (hp':Pv W B' lb pb)=>
     jti (c:=2) (HE.out.below hW) (jtR (x:=jt5 (ls.take r)) (x':=jt5 (ls.drop r)) XA.g0 eMa (by rw [←ela];simp [jt5,jqA]) XB.g0 eMb (by rw [←elb];simp [jt5,jqA]) c0 c1 c2 c3 c4 c5 (by rw [←epa] at hp;exact hp) (by rw [←epb] at hp';exact hp')) XC (by omega) (fun y hy=>by
      simp only [List.mem_cons,List.not_mem_nil,or_false] at hy;rcases hy with rfl|rfl
      ·exact ya1
      ·exact yb1) (d:=80) (by omega) (by omega) (fun y hy=>by
 simp only [List.mem_cons,List.not_mem_nil,or_false] at hy;rcases hy with rfl|rfl
 · exact ya2
 · exact yb2))
    rw [eMa,ela,epa] at HMa;rw [eMb,elb,epb] at HMb;rw [t1,u1,u2,HP5.out.1,HP5.out.2.1,HP5.out.2.2.1] at HMc;have b9:=ja1 b8 sS9.out;have x1:=BX.out.cell 1;have x2:=BX.out.cell 2;simp only [List.getElem?_toArray,List.getElem?_cons_zero,List.getElem?_cons_succ] at x1 x2;have HX8:=qh (And.intro x0 (And.intro x1 x2));have HB89:Hid (Below w8.heap.size w8 w9):=qh sS9.out;clear FA FB VA VB XA XB t1 t2 u1 u2 ya1 ya2 yb1 yb2 XC eMa eMb ela elb epa epb x0 x1 x2 HM1 hr0 hcc bx
    go_upto_region 23 with (first
     | (go_at_call 11;(with_reducible show Calls _ _ #[.slice (some ⟨b,o,none⟩) _ _] _ _);(with_reducible refine (HMa.out _ bi).mono ?_);rintro e10 w10 ⟨B10,d10,rfl,hv10,hb10⟩;obtain ⟨hc10,hf10,_⟩:=bc0 hb10;have HV10:=qh hv10;clear hv10)
     | (go_at_call 11;(with_reducible refine (HMb.out _ bi).mono ?_);rintro e11 w11 ⟨B11,d11,rfl,hv11,hb11⟩;obtain ⟨hc11,hf11,_⟩:=bc0 hb11;have HV11:=qh hv11;clear hv11))
    have bY:Below (w10.alloc (.cells (lyc g Ma B10 la d10) 29)).heap.size (w10.alloc (.cells (lyc g Ma B10 la d10) 29)) (w11.alloc (.cells (lyc g Mb B11 lb d11) 29)):=ja4 hb11 _;have b10:Below w10.heap.size w10 (w11.alloc (.cells (lyc g Mb B11 lb d11) 29)):=ja1 (ja4 (Below.refl _ _) _) bY;have b8V:=ja1 (ja1 HB89.out hb10) b10;have bV:=ja1 b8 b8V;have BY:=(Blk.new w10 29 (lyc g Ma B10 la d10)).below bY;have BZ:=Blk.new w11 29 (lyc g Mb B11 lb d11);have BX2:=qh (BX.out.below b8V);have HV5:=qh (HP58.out.below b8V);have HVa:=qh (HV10.out.below b10);have HVb:=qh (HV11.out.below (ja4 (Below.refl _ _) (.cells (lyc g Mb B11 lb d11) 29)));have y0:=BY.cell 0;have y1:=BY.cell 1;have y2:=BY.cell 2;have zy:=BY.lt;have v0:=BZ.cell 0;have v1:=BZ.cell 1;have v2:=BZ.cell 2;have zz:=BZ.lt;obtain ⟨V,hV⟩:∃V,w11.alloc (.cells (lyc g Mb B11 lb d11) 29)=V:=⟨_,rfl⟩;simp only [lyc] at hV;simp only [lyc,hV,List.getElem?_toArray,List.getElem?_cons_zero,List.getElem?_cons_succ] at y0 y1 y2 zy v0 v1 v2 zz bV BX2 HV5 HVa HVb ⊢;clear BY BZ bY b10 b8V hV hb10 hb11 hc10 hc11 hf10 hf11 HMa HMb HV10 HV11 HX8 HB89 hb9 hc9 hf9 b9;go_upto_region 24 with (go_at_call 11;(with_reducible refine (HMc.out (V.alloc (.cells #[bs g, .int .i64 Ma, .slice B10 la d10,bs g, .int .i64 Mb, .slice B11 lb d11] 29)) V.heap.size B10 B11 d10 d11 (ja4 bV _) (by simp) (by simp) (by simp) (by simp) (by simp) (by simp) (HVa.out.below (ja4 (Below.refl _ _) _)) (HVb.out.below (ja4 (Below.refl _ _) _))).mono ?_);rintro e12 w12 ⟨B12,d12,rfl,hv12,hb12⟩;have _:=bm hb12;have HV12:=qh hv12;clear hv12)
    have bV2:Below V.heap.size V (w12.alloc (.cells (lyc g M B12 l d12) 29)):=ja4 (ja1 (ja4 (Below.refl _ _) _) hb12) _;have BX3:=BX2.out.below bV2;have BU:=Blk.new w12 29 (lyc g M B12 l d12);have HVu:=qh (HV12.out.below (ja4 (Below.refl _ _) (.cells (lyc g M B12 l d12) 29)));have HVx:=qh (HV5.out.below bV2);have bW:=ja1 bV bV2;have p0:=BX3.cell 0;have p1:=BX3.cell 1;have p2:=BX3.cell 2;have v0:=BU.cell 0;have v1:=BU.cell 1;have v2:=BU.cell 2;obtain ⟨U,hU⟩:∃V,w12.alloc (.cells (lyc g M B12 l d12) 29)=V:=⟨_,rfl⟩;simp only [lyc] at hU;simp only [lyc,hU,List.getElem?_toArray,List.getElem?_cons_zero,List.getElem?_cons_succ] at p0 p1 p2 v0 v1 v2 HVu HVx bW ⊢;clear BX3 BU bV2 hU y0 y1 y2 zy zz bV BX2 HV5 HVa HVb HV12 hb12 HMc;go_wp2_with (go_at_call 14;(with_reducible refine mo0 (jf4 (HVu.out) (HVx.out) hl64) fun w13 hb13 hc13 hf13 _=> ?_))
    go_ret;exact ⟨rfl,ja1 bW hb13⟩
theorem jty (hE:Env w) (wx:0≤x∧x < 256) (hv:Lv w A n ls) (hr:∀y∈ls,R64 y.mass) (hc:n≤c):Calls Tryz.prog 4 #[.slice A n c, .int .u8 x] w fun e w'=>e= .returned (.bool true)∧Below w.heap.size w w':=by
 by_cases hn:0 < n∧n≤5
 ·cases hg:jcX n ls with
  | false=>exact jtm hE hv hn hg
  | true=>
    by_cases hK:jg9 (keysOf (jal ls)) ls=0
    ·exact jtw hE wx hv hc hr hn hg hK
    ·exact jtF hE hv hn hg rfl hK
 ·exact jtz hE (by omega)
end
end Go.Proofs.YteokfcjdfjhhhaaGreatDoor
