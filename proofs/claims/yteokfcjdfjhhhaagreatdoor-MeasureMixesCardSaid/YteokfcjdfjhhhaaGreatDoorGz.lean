/- Parts. -/
import Derived.Test.YteokfcjdfjhhhaaGreatDoorGxG
import Derived.Test.YteokfcjdfjhhhaaGreatDoorKsG
set_option linter.all false
set_option maxRecDepth 100000
set_option maxHeartbeats 8000000
namespace Go.Proofs.YteokfcjdfjhhhaaGreatDoor
open Go Go.RowKit Go.Sort

theorem jsy {x:Rat} (h:Dz 20 x):Sz 2 x:=by
 have e:(10:Nat)^20 < B64^2:=by rw [ja7];decide
 exact ⟨Nat.le_of_lt (Nat.lt_trans h.num e),Nat.le_of_lt (Nat.lt_trans h.den e)⟩
theorem Pv.set {w:World} {b o n:Nat} {ls:List (List UInt8×List UInt8)} {p:Addr} {u:Value} (h:Pv w (some ⟨b,o,none⟩) n ls) (hb:p.block≠b):Pv (w.setCell p u) (some ⟨b,o,none⟩) n ls:=
 ⟨h.len,fun h0=>by
   obtain ⟨b',o',e,hl,hc⟩:=h.at_ h0;cases e
   refine ⟨b,o,rfl,by simpa using hl,fun j hj=> ?_⟩;obtain ⟨c1,c2⟩:=hc j hj
   exact ⟨by rw [World.cell?_setCell_far _ _ _ _ (by dsimp only;exact hb)];exact c1,by rw [World.cell?_setCell_far _ _ _ _ (by dsimp only;exact hb)];exact c2⟩⟩
section
variable {w:World} {A:Option Addr} {n c:Nat} {ls:List Lay}
set_option maxHeartbeats 16000000 in
theorem jky (hE:Env w) (hv:Lv w A n ls) (hr:∀x∈ls,R64 x.mass):Calls Tryz.prog 3 #[.slice A n c] w fun e w'=>e= .returned (.bool true)∧Below w.heap.size w w':=by
 have HW:Hid (∀W,Below w.heap.size w W→Calls Tryz.prog 5 #[] W fun e w'=>e= .returned (.bool true)∧Below W.heap.size W w'):=qh (fun W hb=>jjY (hE.below hb));obtain ⟨g,hg⟩:∃g,jcX n ls=g:=⟨_,rfl⟩;have HLI:=qh (fun W (hb:Below w.heap.size w W)=>jld (c:=c) hg (hv.below hb));cases g with
 | false=>
   clear hE hv hr hg;go_enter Tryz.func3,Tryz.ntmps3;go_wp2_with (first|(go_at_call 5;(with_reducible refine mo0 (HW.out _ bi) fun w1 hb1 hc1 hf1 _=> ?_))|(go_at_call 6;(with_reducible refine mo0 (HLI.out _ bi) fun w2 hb2 hc2 hf2 _=> ?_)))
   go_ret;exact ⟨rfl,bi⟩
 | true=>
   obtain ⟨l1,l2,l3⟩:=jm4 hg;have hi:∀x∈ls,LayIn x:=fun x hx=>⟨hr x hx,by have:=(l3 x hx).1;omega,fun p hp=>by have:=(l3 x hx).2 p hp;omega⟩
   have ht:jrY 20 ls:=fun x hx p hp=>((l3 x hx).2 p hp).2
   obtain ⟨K,hK⟩:∃K,jg9 (keysOf (jal ls)) ls=K:=⟨_,rfl⟩;have HC:=qh (fun W (hb:Below w.heap.size w W)=>jla (c:=c) hK (hv.below hb) l1 ht)
   have HX:=qh (fun i (h:i < n)=>(by
    have hm:ls.getD i jaA∈ls:=jbu (by rw [hv.len];exact h)
    exact And.intro (hi _ hm) (ht _ hm):LayIn (ls.getD i jaA)∧∀p∈(ls.getD i jaA).shares,p.2.length≤20))
   have HV:=qh hv;have HE:=qh hE;have HIT:=qh (And.intro hi (And.intro ht (And.intro l1 l2)));have HK:=qh hK;clear hE hv hr hg l1 l2 l3 hi ht hK;go_enter Tryz.func3,Tryz.ntmps3;go_wp2_with (first|(go_at_call 5;(with_reducible refine mo0 (HW.out _ bi) fun w1 hb1 hc1 hf1 _=> ?_))|(go_at_call 6;(with_reducible refine mo0 (HLI.out _ bi) fun w2 hb2 hc2 hf2 _=> ?_)))
   have hb0:=ja1 hb1 hb2;clear hb1 hb2 hc1 hc2 hf1 hf2
   go_loopw [3] (fun u wr=>∃(i:Nat),u= .int .i64 (i:Int)∧i≤n∧Below w.heap.size w wr) (fun u _=>n - (intOf u).toNat)
   case atStart=>exact ⟨0,rfl,Nat.zero_le _,hb0⟩
   case round=>
    obtain ⟨i,rfl,hin,hb⟩:=hrel;have _:=bm hb
    rename World=>wo
    by_cases hi:i < n∧i < 6
    ·have p0:decide (i < n)=true:=by simpa using hi.1
     have p1:decide ((i:Int) < 6)=true:=by rw [decide_eq_true_iff];omega
     have HI:=qh hi;obtain ⟨b,o,B,e,rfl,k0,k1,k2,kp⟩:=HV.out.low hi.1 hb;obtain ⟨h1,h2⟩:=HX.out i hi.1;obtain ⟨x,hx⟩:∃x,ls.getD i jaA=x:=⟨_,rfl⟩;rw [hx] at k0 k1 k2 kp h1 h2;obtain ⟨f,hf⟩:∃f,jaw x.shares=f:=⟨_,rfl⟩;obtain ⟨r,hrr⟩:∃f,jaj x=f:=⟨_,rfl⟩;have H1:=qh (fun W (hW:Below w.heap.size w W)=>jen (c:=e) hf (HE.out.below hW) (kp.below hW) h1.len);have H2:=qh (fun W (hW:Below w.heap.size w W)=>jev (c:=e) hf (kp.below hW) (d:=20) (by omega) (by omega) h2);have H3:=qh (fun W (hW:Below w.heap.size w W)=>jfx (c:=e) hrr (HE.out.below hW) (kp.below hW) h1);have H4:=qh (fun W (hW:Below w.heap.size w W)=>jfG (g:=x.grain) (z:=x.mass) (ps:=x.shares) (c:=e) hrr (kp.below hW) (d:=20) (by omega) (by omega) h2);obtain ⟨xg,e1⟩:∃z,x.grain=z:=⟨_,rfl⟩;obtain ⟨xm,e2⟩:∃z,x.mass=z:=⟨_,rfl⟩;obtain ⟨l,e3⟩:∃z,x.shares.length=z:=⟨_,rfl⟩;rw [e3] at H1 H2 k2;rw [e1,e2,e3] at H3 H4;rw [e1] at k0;rw [e2] at k1;have zb:b < wo.heap.size:=World.block_lt_of_cell? wo _ k1;have hii:=hi.1;have hi6:=hi.2;clear h1 h2 hx hf hrr e1 e2 e3 kp hi;go_upto_region 6 with (fail)
     refine ja3 (fun w'=>Below wo.heap.size wo w') [] (by kernel_rfl) ?_;refine tb 0 (.slice (some ⟨b,o,none⟩) n c) [] rfl (by kernel_rfl) pk rfl (by intros;go_simp) bq0 ?_;simp only [ppq];refine tb 1 (.int .i64 (i:Int)) [] rfl (by kernel_rfl) pk rfl (by intros;go_simp) bq0 ?_;simp only [ppq];refine tb 2 (.pointer (some ⟨b,o+i*3,none⟩)) [] rfl (by kernel_rfl) pk rfl (by intros;go_simp) bq0 ?_;simp only [ppq];refine tb 3 (.pointer (some ⟨b,o+i*3+2,none⟩)) [] rfl (by kernel_rfl) pk rfl (by intros;go_simp) bq0 ?_;simp only [ppq];refine tb 4 (.slice B l e) [] rfl (by kernel_rfl) pk rfl (by intros;go_simp) bq0 ?_;simp only [ppq];refine tb 6 (.slice (some ⟨b,o,none⟩) n c) [] rfl (by kernel_rfl) pk rfl (by intros;go_simp) bq0 ?_;simp only [ppq];refine tb 7 (.int .i64 (i:Int)) [] rfl (by kernel_rfl) pk rfl (by intros;go_simp) bq0 ?_;simp only [ppq];refine tb 8 (.pointer (some ⟨b,o+i*3,none⟩)) [] rfl (by kernel_rfl) pk rfl (by intros;go_simp) bq0 ?_;simp only [ppq];refine tb 9 (.pointer (some ⟨b,o+i*3+2,none⟩)) [] rfl (by kernel_rfl) pk rfl (by intros;go_simp) bq0 ?_;simp only [ppq];refine tb 10 (.slice B l e) [] rfl (by kernel_rfl) pk rfl (by intros;go_simp) bq0 ?_;simp only [ppq];refine rd1 5 (by kernel_rfl) rfl (fun K hK=> ?_);go_simp;go_wp2_with (go_at_call 7;(with_reducible refine mo0 (H1.out _ (ja1 hb bq0)) fun w3 hb3 hc3 hf3 _=> ?_))
     have sS3:=qh (bst bq0 hb3);refine hK.out _ _ (fun _=>sS3.out) ?_;clear hK K;refine rd1 11 (by kernel_rfl) rfl (fun K hK=> ?_);go_simp;go_wp2_with (go_at_call 8;(with_reducible refine mo0 (H2.out _ (ja1 hb sS3.out)) fun w4 hb4 hc4 hf4 _=> ?_))
     have sS4:=qh (bst sS3.out hb4);refine hK.out _ _ (fun _=>sS4.out) ?_;clear hK K;refine rd1 12 (by kernel_rfl) rfl (fun K hK=> ?_);go_simp;refine hK.out _ _ (fun _=>bi) ?_;clear hK K;refine rd1 13 (by kernel_rfl) rfl (fun K hK=> ?_);go_simp;refine hK.out _ _ (fun _=>bi) ?_;clear hK K;refine tb 14 (.slice (some ⟨b,o,none⟩) n c) [] rfl (by kernel_rfl) pk rfl (by intros;go_simp) sS4.out ?_;simp only [ppq];refine tb 15 (.int .i64 (i:Int)) [] rfl (by kernel_rfl) pk rfl (by intros;go_simp) sS4.out ?_;simp only [ppq];refine tb 16 (.pointer (some ⟨b,o+i*3,none⟩)) [] rfl (by kernel_rfl) pk rfl (by intros;go_simp) sS4.out ?_;simp only [ppq];refine tb 17 (ly xg xm B l e) [] rfl (by kernel_rfl) pk rfl (by intros;go_simp) sS4.out ?_;simp only [ppq];refine tb 19 (.slice (some ⟨b,o,none⟩) n c) [] rfl (by kernel_rfl) pk rfl (by intros;go_simp) sS4.out ?_;simp only [ppq];refine tb 20 (.int .i64 (i:Int)) [] rfl (by kernel_rfl) pk rfl (by intros;go_simp) sS4.out ?_;simp only [ppq];refine tb 21 (.pointer (some ⟨b,o+i*3,none⟩)) [] rfl (by kernel_rfl) pk rfl (by intros;go_simp) sS4.out ?_;simp only [ppq];refine tb 22 (ly xg xm B l e) [] rfl (by kernel_rfl) pk rfl (by intros;go_simp) sS4.out ?_;simp only [ppq];refine rd1 18 (by kernel_rfl) rfl (fun K hK=> ?_);go_simp;go_wp2_with (go_at_call 9;(with_reducible refine mo0 (H3.out _ (ja1 hb sS4.out)) fun w5 hb5 hc5 hf5 _=> ?_))
     have sS5:=qh (bst sS4.out hb5);refine hK.out _ _ (fun _=>sS5.out) ?_;clear hK K;refine rd1 23 (by kernel_rfl) rfl (fun K hK=> ?_);go_simp;go_wp2_with (go_at_call 10;(with_reducible refine mo0 (H4.out _ (ja1 hb sS5.out)) fun w6 hb6 hc6 hf6 _=> ?_))
     have sS6:=qh (bst sS5.out hb6);refine hK.out _ _ (fun _=>sS6.out) ?_;clear hK K;refine rd1 24 (by kernel_rfl) rfl (fun K hK=> ?_);go_simp;refine hK.out _ _ (fun _=>bi) ?_;clear hK K;refine rd1 25 (by kernel_rfl) rfl (fun K hK=> ?_);go_simp;refine hK.out _ _ (fun _=>bi) ?_;clear hK K;refine ja2 (by kernel_rfl) ?_ _;go_wp2;exact ⟨⟨i+1,by simp,HI.out.1,ja1 hb sS6.out⟩,by have:=HI.out;simp [intOf];omega⟩
    ·go_upto_region 4 with (fail)
     go_cut [23] (fun u wx=>u= .bool false∧wx=wo)
     case first=>
      by_cases h1:i < n
      ·have p0:decide (i < n)=true:=by simpa using h1
       have p1:decide ((i:Int) < 6)=false:=by rw [decide_eq_false_iff_not];omega
       go_wp2;go_meet;exact ⟨rfl,rfl⟩
      ·have p0:decide (i < n)=false:=by simpa using h1
       go_wp2;go_meet;exact ⟨rfl,rfl⟩
     case rest=>
      obtain ⟨rfl,rfl⟩:=hcut;by_cases hK0:K=0
      ·subst hK0;obtain ⟨hla,ht,l1,l2⟩:=HIT.out;have hk:=HK.out;rw [jfr] at hk;have hm0:jku ls=0:=Classical.byContradiction fun h=>h (by rwa [if_pos h] at hk)
       rw [if_neg (by simpa using hm0)] at hk;have h64:(keysOf (jal ls)).length≤64:=Classical.byContradiction fun h=>by rw [if_pos (by omega)] at hk;omega
       obtain ⟨z1,z2,z3⟩:=jer hm0;have hl:=HV.out.len
       have h0:0 < n∧n≤6:=by
        unfold jku at hm0;split at hm0
        ·omega
        ·split at hm0 <;> omega
       have hn30:(n+2)*30≤240:=Nat.mul_le_mul_right 30 (show n+2≤8 by omega);have hR:RMix w A n ls 20:=jmL HV.out z1 ht (by omega) (by omega) (by omega);have HB:=qh (fun W (hW:Below w.heap.size w W)=>jpJ (c:=c) (HE.out.below hW) (hR.below hW) h0.1 (by omega) hla hm0 h64 (by omega) (q:=2) (by omega) (fun x hx=>jsy hx));have HR:=qh (fun W (hW:Below w.heap.size w W)=>jrO (c:=c) (hR.below hW) h0.1 rfl rfl z3 (jc4 (jal ls)) (jbw _) ⟨jhr hR h0.1,by omega⟩ (fun y _=>(jjB (jjk hR h0.1 z3 (by omega) y) (by omega) (by omega)).2.1));obtain ⟨g0,hg0⟩:∃g,(ls.getD 0 jaA).grain=g:=⟨_,rfl⟩;obtain ⟨M,hM⟩:∃g,jcd ls=g:=⟨_,rfl⟩;obtain ⟨l,hl2⟩:∃g,(keysOf (jal ls)).length=g:=⟨_,rfl⟩;obtain ⟨ps,hps⟩:∃ps,jqA ls=ps:=⟨_,rfl⟩;have hps2:=hps;unfold jqA at hps2;rw [hg0,hM,hl2,hps] at HB;rw [hM] at hps2;rw [hg0,hM,hl2,hps2] at HR;have hl64:l≤64:=by omega
       clear hla ht l1 l2 hk hm0 h64 z1 z2 z3 hl h0 hn30 hR hg0 hM hl2 hps hps2 HIT HK hi
       go_wp2_with (first
        | (go_at_call 11;(with_reducible refine (HB.out _ bi).mono ?_);rintro e3 w3 ⟨B3,d3,rfl,hv3,hb3⟩;obtain ⟨hc3,hf3,_⟩:=bc0 hb3;have HV3:=qh hv3;clear hv3)
        | ((go_at_call 12;(with_reducible refine mo0 (HC.out _ bi) fun w4 hb4 hc4 hf4 _=> ?_));(first|have y4_0:=szl (k:=w3.heap.size) hb4 (by first|go_size|fail)|have y4_0:=Nat.one_pos))
        | (go_at_call 13;(with_reducible refine (HR.out _ bi).mono ?_);rintro e5 w5 ⟨g5,d5,rfl,hg5,hv5,hb5⟩;obtain ⟨hc5,hf5,_⟩:=bc0 hb5;have HV5:=qh hv5;clear hv5;have h5:w4.heap.size < g5:=(by have:=hg5;simp at this;omega);have hy5:w3.heap.size < w5.heap.size:=(by have:=hb5.size;(try simp at this);omega);have hy6:w4.heap.size < w5.heap.size:=(by have:=hb5.size;simp at this;omega);have hne:w3.heap.size≠w4.heap.size:=nl y4_0)
        | (go_at_call 14;(with_reducible refine mo0 (jf4 (HV3.out.below bi) (((HV5.out.set (nl h5)).set (nl h5)).set (nl h5)) (by omega)) fun w6 hb6 hc6 hf6 _=> ?_)))
       go_ret;exact ⟨rfl,bi⟩
      ·have HB:=qh (fun W (hW:Below w.heap.size w W)=>jnv (c:=c) (HE.out.below hW) (HV.out.below hW) HIT.out.1 (q:=2) (by omega) (fun x hx p hp hc=>jsy ((jbQ hc).dzl (HIT.out.2.1 x hx p hp) (by omega))) HK.out hK0);have HS:=qh (fun W=>jf4 (w:=W) (A:=none) (B:=none) (n:=0) (ps:=[]) (c:=0) (c':=0) (g:=[]) (z:=0) ⟨rfl,fun h=>absurd h (by omega)⟩ ⟨rfl,fun h=>absurd h (by omega)⟩ (by omega));have q1:(K==0)=false:=by rw [beq_eq_false_iff_ne];exact hK0
       clear HIT HK hK0 hi
       go_wp2_with (first
        | (go_at_call 11;(with_reducible refine mo0 (HB.out _ bi) fun w3 hb3 hc3 hf3 _=> ?_))
        | ((go_at_call 12;(with_reducible refine mo0 (HC.out _ bi) fun w4 hb4 hc4 hf4 _=> ?_));(first|have y4_0:=szl (k:=w3.heap.size) hb4 (by first|go_size|fail)|have y4_0:=Nat.one_pos))
        | ((go_at_call 14;(with_reducible refine mo0 (HS.out _) fun w5 hb5 hc5 hf5 _=> ?_));(first|have y5_0:=szl (k:=w3.heap.size) hb5 (by first|go_size|fail)|have y5_0:=Nat.one_pos);(first|have y5_1:=szl (k:=w4.heap.size) hb5 (by first|go_size|fail)|have y5_1:=Nat.one_pos)))
       go_ret;exact ⟨rfl,bi⟩
end
end Go.Proofs.YteokfcjdfjhhhaaGreatDoor
