/- Parts. -/
import Derived.Test.YtfagcpcikjlboaaGreatDoorJgG
import Derived.Test.YtfagcpcikjlboaaGreatDoorPbG
set_option linter.all false
set_option maxRecDepth 100000
set_option maxHeartbeats 8000000
namespace Go.Proofs.YtfagcpcikjlboaaGreatDoor
open Go Go.RowKit Go.Proofs.Tryz

abbrev QP (x:Rat) (w:World) (e:Ending) (w':World):Prop:=e= .returned (bs (tq x))∧Below w.heap.size w w'
theorem Pz.at {x y:Int} {L M:Nat} {w w':World} {e:Ending} (h:Pz x y L M w e w') {s t:Bool} (hs:decide (x < 0)=s) (ht:decide (y < 0)=t):∃A n c B m d,e= .returned (.tuple #[.agg #[.bool s, .slice A n c], .agg #[.bool t, .slice B m d]])∧(Rz w' (.agg #[.bool s, .slice A n c]) x L∧Rz w' (.agg #[.bool t, .slice B m d]) y M)∧Below w.heap.size w w':=by
 obtain ⟨u,v,rfl,⟨A,n,c,ds,rfl,h1,h2⟩,⟨B,m,d,es,rfl,h3,h4⟩,hb⟩:=h;rw [hs,ht];exact ⟨A,n,c,B,m,d,rfl,⟨⟨A,n,c,ds,by rw [hs],h1,h2⟩,⟨B,m,d,es,by rw [ht],h3,h4⟩⟩,hb⟩
theorem jcn {w w':World} {T S:TypeId} {c d:Array Value} (hb:Below ((w.alloc (.cells c T)).alloc (.cells d S)).heap.size ((w.alloc (.cells c T)).alloc (.cells d S)) w'):Blk w' w.heap.size T c∧Blk w' (w.heap.size+1) S d∧Below w.heap.size w w':=by
 refine ⟨((Blk.new w T c).below (ja5 (Below.refl _ _) _)).below hb, ?_,ja0 (ja5 (ja5 (Below.refl _ _) _) _) hb⟩;have:=(Blk.new (w.alloc (.cells c T)) S d).below hb;simpa using this
section
variable {w:World} {x y:Rat} {k m:Nat}
theorem jos (hx:Dz k x) (hy:Dz m y) (hk:0 < k) (hm:0 < m) (hk2:k≤9000) (hm2:m≤9000) (hsm:¬(Sm x∧Sm y)):Calls prog 12 #[bs (tq x),bs (tq y)] w (QP (x+y) w):=by
 obtain ⟨b1,hb1⟩:∃b,sm9 x=b:=⟨_,rfl⟩;obtain ⟨b2,hb2⟩:∃b,sm9 y=b:=⟨_,rfl⟩
 have hbb:(b1 && b2)=false:=by
  rw [←hb1,←hb2];by_cases h1:sm9 x=true
  ·by_cases h2:sm9 y=true
   ·exact absurd ⟨jeM.1 h1,jeM.1 h2⟩ hsm
   ·rw [Bool.not_eq_true] at h2;rw [h2];simp
  ·rw [Bool.not_eq_true] at h1;rw [h1];rfl
 have HQ1:=qh (fun W=>jgV (w:=W) hb1 hx hk (by omega));have HQ2:=qh (fun W=>jgV (w:=W) hb2 hy hm (by omega));obtain ⟨s1,hs1⟩:∃b,decide (x.num < 0)=b:=⟨_,rfl⟩;obtain ⟨s2,hs2⟩:∃b,decide (y.num < 0)=b:=⟨_,rfl⟩;have HP1:=qh (fun W=>(jdy (w:=W) hx hk (by omega)).mono fun e w' h=>h.at hs1 (show decide ((x.den:Int) < 0)=false by rw [decide_eq_false_iff_not];omega));have HP2:=qh (fun W=>(jdy (w:=W) hy hm (by omega)).mono fun e w' h=>h.at hs2 (show decide ((y.den:Int) < 0)=false by rw [decide_eq_false_iff_not];omega));obtain ⟨X,hX⟩:∃X,tq x=X:=⟨_,rfl⟩;obtain ⟨Y,hY⟩:∃X,tq y=X:=⟨_,rfl⟩;rw [hX] at HQ1 HP1 ⊢;rw [hY] at HQ2 HP2 ⊢;obtain ⟨p,hp⟩:∃b,x.num=b:=⟨_,rfl⟩;obtain ⟨q,hq⟩:∃b,x.den=b:=⟨_,rfl⟩;obtain ⟨r,hr⟩:∃b,y.num=b:=⟨_,rfl⟩;obtain ⟨s,hs⟩:∃b,y.den=b:=⟨_,rfl⟩;have hq0:0 < q:=by rw [←hq];exact x.den_pos
 have hs0:0 < s:=by rw [←hs];exact y.den_pos
 have HH:=qh (ai (show k+3≤9003 by omega) (ai (show m+3≤9003 by omega) (show (q:Int)*(s:Int)≠0 from Int.mul_ne_zero (by omega) (by omega))));rw [hp,hq] at HP1;rw [hr,hs] at HP2;obtain ⟨R,hR⟩:∃R,tq (x+y)=R:=⟨_,rfl⟩;have HE:=qh (show tq (Rat.divInt (p*(s:Int)+r*(q:Int)) ((q:Int)*(s:Int)))=R by rw [←hR,Rq.add_eq,hp,hq,hr,hs]);unfold QP;rw [hR];clear hx hy hk hm hk2 hm2 hsm hb1 hb2 hX hY hs1 hs2 hp hq hr hs hq0 hs0 hR;go_enter func12,ntmps12;cases b1 with
 | false=>
   go_upto_region 5 with first|(go_at_call 37;(with_reducible refine (HQ1.o _).mono ?_);rintro e1 w1 ⟨n1,d1,rfl,hb1⟩;have _:=bm hb1)|(go_at_call 37;(with_reducible refine (HQ2.o _).mono ?_);rintro e2 w2 ⟨n2,d2,rfl,hb2⟩;have _:=bm hb2)
   go_upto_region 7 with first|(go_at_call 39;(with_reducible refine (HP1.o _).mono ?_);rintro e3 w3 ⟨A,i,c,B,j,d,rfl,h3,hb3⟩;have _:=bm hb3;have H3:=qh h3;clear h3)|(go_at_call 39;(with_reducible refine (HP2.o _).mono ?_);rintro e4 w4 ⟨C,i',c',D,j',d',rfl,h4,hb4⟩;have _:=bm hb4;have H4:=qh h4;clear h4)
   obtain ⟨B1,B2,B3⟩:=jcn hb4;obtain ⟨V,hV⟩:∃V,(w4.alloc (.cells #[.bool s2, .slice C i' c'] 81)).alloc (.cells #[.bool false, .slice D j' d'] 81)=V:=⟨_,rfl⟩;obtain ⟨B4,B5,B6⟩:=jcn (w:=w4) (T:=81) (S:=81) (c:= #[.bool s2, .slice C i' c']) (d:= #[.bool false, .slice D j' d']) (w':=V) (by rw [hV];exact Below.refl _ _);have bV:Below w.heap.size w V:=ja0 (ja0 (ja0 (ja0 hb1 hb2) hb3) B3) B6;obtain ⟨v1,v2, -⟩:=jag (B1.below B6);obtain ⟨v3,v4, -⟩:=jag (B2.below B6);obtain ⟨v5,v6, -⟩:=jag B4;obtain ⟨v7,v8, -⟩:=jag B5;have z0:=(B1.below B6).lt;have z1:=(B2.below B6).lt;have z2:=B4.lt;have z3:=B5.lt;have R1:=H3.o.1.below (ja0 B3 B6);have R2:=H3.o.2.below (ja0 B3 B6);have R3:=H4.o.1.below B6;have R4:=H4.o.2.below B6;rw [hV];clear hV H3 H4 B1 B2 B3 B4 B5 B6 hb1 hb2 hb3 hb4 HQ1 HQ2 HP1 HP2 hbb;have HT1:=qh (fun W (hb:Below V.heap.size V W)=>jaP (R1.below hb) (R4.below hb) (by have:=HH.o;omega) (by have:=HH.o;omega));have HT2:=qh (fun W (hb:Below V.heap.size V W)=>jaP (R3.below hb) (R2.below hb) (by have:=HH.o;omega) (by have:=HH.o;omega));have HT3:=qh (fun W (hb:Below V.heap.size V W)=>jaP (R2.below hb) (R4.below hb) (by have:=HH.o;omega) (by have:=HH.o;omega))
   have HFR:=qh (fun W (u v:Value) L M (h:Rz W u (p*(s:Int)+r*(q:Int)) L) (h':Rz W v ((q:Int)*(s:Int)) M) (hL:L≤20000) (hM:M≤20000)=>(show Calls prog 40 #[u,v] W fun e w'=>e= .returned (bs R)∧Below W.heap.size W w' from by
    have:=jb5 h h' hL hM HH.o.2.2
    rwa [HE.o] at this))
   clear R1 R2 R3 R4;refine ja1 (fun w'=>Below V.heap.size V w') [] (by kernel_rfl) ?_;refine tl [(0,[2], .agg #[.bool s1, .slice A i c]),(1,[2], .agg #[.bool false, .slice D j' d']),(3,[5], .agg #[.bool s2, .slice C i' c'])] [_,_,_] rfl (by kernel_rfl) pk5 (by intros;simp only [tyq,ppq];go_simp) bq0 ?_;simp only [tlq,ppq];refine tl [(4,[5], .agg #[.bool false, .slice B j d]),(7,[9], .agg #[.bool false, .slice B j d]),(8,[9], .agg #[.bool false, .slice D j' d'])] [_,_,_] rfl (by kernel_rfl) pk5 (by intros;simp only [tyq,ppq];go_simp) bq0 ?_;simp only [tlq,ppq];refine rd1 2 (by kernel_rfl) rfl (fun K hK=> ?_);go_simp;go_wp2_with (go_at_call 42;(with_reducible refine (HT1.o _ bq0).mono ?_);rintro e12 w12 ⟨r12,rfl,x12,hb12⟩;have _:=bm hb12;have H12:=qh x12;clear x12)
   have sS12:=qh (bst bq0 hb12);refine hK.out _ _ (fun _=>sS12.o) ?_;clear hK K;refine rd1 5 (by kernel_rfl) rfl (fun K hK=> ?_);go_simp;go_wp2_with (go_at_call 42;(with_reducible refine (HT2.o _ sS12.o).mono ?_);rintro e13 w13 ⟨r13,rfl,x13,hb13⟩;have _:=bm hb13;have H13:=qh x13;clear x13)
   have sS13:=qh (bst sS12.o hb13);refine hK.out _ _ (fun _=>sS13.o) ?_;clear hK K;refine rd1 6 (by kernel_rfl) rfl (fun K hK=> ?_);go_simp;go_wp2_with (go_at_call 41;(with_reducible refine (jjK (H12.o.below hb13) H13.o (by have:=HH.o;omega) (by have:=HH.o;omega)).mono ?_);rintro e14 w14 ⟨r14,rfl,x14,hb14⟩;have _:=bm hb14;have H14:=qh x14;clear x14)
   have sS14:=qh (bst sS13.o hb14);refine hK.out _ _ (fun _=>sS14.o) ?_;clear hK K;refine rd1 9 (by kernel_rfl) rfl (fun K hK=> ?_);go_simp;go_wp2_with (go_at_call 42;(with_reducible refine (HT3.o _ sS14.o).mono ?_);rintro e15 w15 ⟨r15,rfl,x15,hb15⟩;have _:=bm hb15;have H15:=qh x15;clear x15)
   have sS15:=qh (bst sS14.o hb15);refine hK.out _ _ (fun _=>sS15.o) ?_;clear hK K;refine rd1 10 (by kernel_rfl) rfl (fun K hK=> ?_);go_simp;go_wp2_with (go_at_call 40;(with_reducible refine mz (HFR.o _ _ _ _ _ (H14.o.below hb15) H15.o (by have:=HH.o;omega) (by have:=HH.o;omega)) fun w16 hb16 _=> ?_))
   have sS16:=qh (bst sS15.o hb16);refine hK.out _ _ (fun _=>sS16.o) ?_;clear hK K;refine rd1 11 (by kernel_rfl) rfl (fun K hK=> ?_);go_simp;refine hK.out _ _ (fun _=>bi) ?_;clear hK K;refine ja2 (by kernel_rfl) ?_ _;have bE:=ja0 bV sS16.o;go_wp2;go_ret;exact ⟨rfl,(bq (by with_reducible repeat' first|assumption|constructor|go_size))⟩
 | true=>
   cases b2 with
   | true=>cases hbb
   | false=>
     go_upto_region 5 with first|(go_at_call 37;(with_reducible refine (HQ1.o _).mono ?_);rintro e1 w1 ⟨n1,d1,rfl,hb1⟩;have _:=bm hb1)|(go_at_call 37;(with_reducible refine (HQ2.o _).mono ?_);rintro e2 w2 ⟨n2,d2,rfl,hb2⟩;have _:=bm hb2)
     go_upto_region 7 with first|(go_at_call 39;(with_reducible refine (HP1.o _).mono ?_);rintro e3 w3 ⟨A,i,c,B,j,d,rfl,h3,hb3⟩;have _:=bm hb3;have H3:=qh h3;clear h3)|(go_at_call 39;(with_reducible refine (HP2.o _).mono ?_);rintro e4 w4 ⟨C,i',c',D,j',d',rfl,h4,hb4⟩;have _:=bm hb4;have H4:=qh h4;clear h4)
     obtain ⟨B1,B2,B3⟩:=jcn hb4;obtain ⟨V,hV⟩:∃V,(w4.alloc (.cells #[.bool s2, .slice C i' c'] 81)).alloc (.cells #[.bool false, .slice D j' d'] 81)=V:=⟨_,rfl⟩;obtain ⟨B4,B5,B6⟩:=jcn (w:=w4) (T:=81) (S:=81) (c:= #[.bool s2, .slice C i' c']) (d:= #[.bool false, .slice D j' d']) (w':=V) (by rw [hV];exact Below.refl _ _);have bV:Below w.heap.size w V:=ja0 (ja0 (ja0 (ja0 hb1 hb2) hb3) B3) B6;obtain ⟨v1,v2, -⟩:=jag (B1.below B6);obtain ⟨v3,v4, -⟩:=jag (B2.below B6);obtain ⟨v5,v6, -⟩:=jag B4;obtain ⟨v7,v8, -⟩:=jag B5;have z0:=(B1.below B6).lt;have z1:=(B2.below B6).lt;have z2:=B4.lt;have z3:=B5.lt;have R1:=H3.o.1.below (ja0 B3 B6);have R2:=H3.o.2.below (ja0 B3 B6);have R3:=H4.o.1.below B6;have R4:=H4.o.2.below B6;rw [hV];clear hV H3 H4 B1 B2 B3 B4 B5 B6 hb1 hb2 hb3 hb4 HQ1 HQ2 HP1 HP2 hbb;have HT1:=qh (fun W (hb:Below V.heap.size V W)=>jaP (R1.below hb) (R4.below hb) (by have:=HH.o;omega) (by have:=HH.o;omega));have HT2:=qh (fun W (hb:Below V.heap.size V W)=>jaP (R3.below hb) (R2.below hb) (by have:=HH.o;omega) (by have:=HH.o;omega));have HT3:=qh (fun W (hb:Below V.heap.size V W)=>jaP (R2.below hb) (R4.below hb) (by have:=HH.o;omega) (by have:=HH.o;omega))
     have HFR:=qh (fun W (u v:Value) L M (h:Rz W u (p*(s:Int)+r*(q:Int)) L) (h':Rz W v ((q:Int)*(s:Int)) M) (hL:L≤20000) (hM:M≤20000)=>(show Calls prog 40 #[u,v] W fun e w'=>e= .returned (bs R)∧Below W.heap.size W w' from by
      have:=jb5 h h' hL hM HH.o.2.2
      rwa [HE.o] at this))
     clear R1 R2 R3 R4;refine ja1 (fun w'=>Below V.heap.size V w') [] (by kernel_rfl) ?_;refine tl [(0,[2], .agg #[.bool s1, .slice A i c]),(1,[2], .agg #[.bool false, .slice D j' d']),(3,[5], .agg #[.bool s2, .slice C i' c'])] [_,_,_] rfl (by kernel_rfl) pk5 (by intros;simp only [tyq,ppq];go_simp) bq0 ?_;simp only [tlq,ppq];refine tl [(4,[5], .agg #[.bool false, .slice B j d]),(7,[9], .agg #[.bool false, .slice B j d]),(8,[9], .agg #[.bool false, .slice D j' d'])] [_,_,_] rfl (by kernel_rfl) pk5 (by intros;simp only [tyq,ppq];go_simp) bq0 ?_;simp only [tlq,ppq];refine rd1 2 (by kernel_rfl) rfl (fun K hK=> ?_);go_simp;go_wp2_with (go_at_call 42;(with_reducible refine (HT1.o _ bq0).mono ?_);rintro e12 w12 ⟨r12,rfl,x12,hb12⟩;have _:=bm hb12;have H12:=qh x12;clear x12)
     have sS12:=qh (bst bq0 hb12);refine hK.out _ _ (fun _=>sS12.o) ?_;clear hK K;refine rd1 5 (by kernel_rfl) rfl (fun K hK=> ?_);go_simp;go_wp2_with (go_at_call 42;(with_reducible refine (HT2.o _ sS12.o).mono ?_);rintro e13 w13 ⟨r13,rfl,x13,hb13⟩;have _:=bm hb13;have H13:=qh x13;clear x13)
     have sS13:=qh (bst sS12.o hb13);refine hK.out _ _ (fun _=>sS13.o) ?_;clear hK K;refine rd1 6 (by kernel_rfl) rfl (fun K hK=> ?_);go_simp;go_wp2_with (go_at_call 41;(with_reducible refine (jjK (H12.o.below hb13) H13.o (by have:=HH.o;omega) (by have:=HH.o;omega)).mono ?_);rintro e14 w14 ⟨r14,rfl,x14,hb14⟩;have _:=bm hb14;have H14:=qh x14;clear x14)
     have sS14:=qh (bst sS13.o hb14);refine hK.out _ _ (fun _=>sS14.o) ?_;clear hK K;refine rd1 9 (by kernel_rfl) rfl (fun K hK=> ?_);go_simp;go_wp2_with (go_at_call 42;(with_reducible refine (HT3.o _ sS14.o).mono ?_);rintro e15 w15 ⟨r15,rfl,x15,hb15⟩;have _:=bm hb15;have H15:=qh x15;clear x15)
     have sS15:=qh (bst sS14.o hb15);refine hK.out _ _ (fun _=>sS15.o) ?_;clear hK K;refine rd1 10 (by kernel_rfl) rfl (fun K hK=> ?_);go_simp;go_wp2_with (go_at_call 40;(with_reducible refine mz (HFR.o _ _ _ _ _ (H14.o.below hb15) H15.o (by have:=HH.o;omega) (by have:=HH.o;omega)) fun w16 hb16 _=> ?_))
     have sS16:=qh (bst sS15.o hb16);refine hK.out _ _ (fun _=>sS16.o) ?_;clear hK K;refine rd1 11 (by kernel_rfl) rfl (fun K hK=> ?_);go_simp;refine hK.out _ _ (fun _=>bi) ?_;clear hK K;refine ja2 (by kernel_rfl) ?_ _;have bE:=ja0 bV sS16.o;go_wp2;go_ret;exact ⟨rfl,(bq (by with_reducible repeat' first|assumption|constructor|go_size))⟩
theorem jto (hx:Dz k x) (hy:Dz m y) (hk:0 < k) (hm:0 < m) (hk2:k≤9000) (hm2:m≤9000):Calls prog 12 #[bs (tq x),bs (tq y)] w (QP (x+y) w):=by
 by_cases h:Sm x∧Sm y
 ·exact jtF rfl rfl h.1 h.2
 ·exact jos hx hy hk hm hk2 hm2 h
end

theorem Dz.inv {k:Nat} {x:Rat} (h:Dz k x) (h0:x≠0):Dz k x⁻¹:=by
 have hn:x.num≠0:=fun e=>h0 (Rat.num_eq_zero.1 e)
 rw [Rat.inv_def];rcases Int.lt_or_le x.num 0 with e|e
 ·have e2:x.num= -((x.num.natAbs:Nat):Int):=by omega
  have:Rat.divInt (x.den:Int) x.num=Rat.divInt (-(x.den:Int)) ((x.num.natAbs:Nat):Int):=by
   rw [←Rat.neg_divInt_neg,show -x.num=((x.num.natAbs:Nat):Int) by omega]
  rw [this];exact jdf (by omega) (by rw [Int.natAbs_neg,Int.natAbs_natCast];exact h.den) h.num
 ·have e2:x.num=((x.num.natAbs:Nat):Int):=by omega
  rw [e2];exact jdf (by omega) (by rw [Int.natAbs_natCast];exact h.den) h.num
theorem Dz.div {k m:Nat} {x y:Rat} (hx:Dz k x) (hy:Dz m y) (h0:y≠0):Dz (k+m) (x / y):=by
 rw [Rat.div_def];exact hx.mul (hy.inv h0)
theorem jgI (z:Int):tq ((z:Int):Rat)=zt z:=by
 rw [jgs];rfl
theorem jgz {k:Nat} {x:Rat} (h:Dz k x) (hk:0 < k) (hk2:k≤50000):(tq x).length≤100002:=by
 have:=jur h hk;omega
section
variable {w:World} {x y:Rat} {k m:Nat}
theorem jsy (hx:Dz k x) (hk:0 < k) (hk2:k≤50000):Calls prog 90 #[bs (tq x)] w (QP (-x) w):=
 jsh (jux x) (by have:=jgz hx hk hk2;omega)
theorem jg3 (hx:Dz k x) (hy:Dz m y) (hk:0 < k) (hm:0 < m) (hk2:k≤9000) (hm2:m≤9000):Calls prog 43 #[bs (tq x),bs (tq y)] w (QP (x - y) w):=by
 have HN:=qh (fun W=>jsy (w:=W) hy hm (by omega));have HA:=qh (fun W=>jto (w:=W) hx hy.neg hk hm hk2 hm2);rw [←Rat.sub_eq_add_neg] at HA;unfold QP at HN HA ⊢;obtain ⟨X,hX⟩:∃m,tq x=m:=⟨_,rfl⟩;obtain ⟨Y,hY⟩:∃m,tq y=m:=⟨_,rfl⟩;obtain ⟨Z,hZ⟩:∃m,tq (-y)=m:=⟨_,rfl⟩;obtain ⟨r,hr⟩:∃r,tq (x - y)=r:=⟨_,rfl⟩;rw [hY,hZ] at HN;rw [hX,hZ,hr] at HA;rw [hX,hY,hr];clear hx hy hk hm hk2 hm2 hX hY hZ hr;go_enter func43,ntmps43;go_wp2_with (first|(go_at_call 90;(with_reducible refine mo0 (HN.o _) fun w1 hb1 hc1 hf1 _=> ?_))|(go_at_call 12;(with_reducible refine mo0 (HA.o _) fun w2 hb2 hc2 hf2 _=> ?_)))
 go_ret;exact ⟨rfl,bi⟩
theorem jqN {g:Int} (hg:sgn x.num=g) (hx:Dz k x) (hk:0 < k) (hk2:k≤50000):Calls prog 16 #[bs (tq x)] w fun e w'=>e= .returned (.int .i64 g)∧Below w.heap.size w w':=
 jcx (by rw [ju0,hg]) (by have:=jgz hx hk hk2;omega)
theorem jko {g:Int} (hg:Rq.cmpQ x y=g) (hx:Dz k x) (hy:Dz m y) (hk:0 < k) (hm:0 < m) (hk2:k≤9000) (hm2:m≤9000):Calls prog 13 #[bs (tq x),bs (tq y)] w fun e w'=>e= .returned (.int .i64 g)∧Below w.heap.size w w':=by
 have HS:=qh (fun W=>jg3 (w:=W) hx hy hk hm hk2 hm2);have HG:=qh (fun W=>jqN (w:=W) (x:=x - y) (g:=g) (by rw [jrX,hg]) (hx.sub hy) (by omega) (by omega));unfold QP at HS;obtain ⟨X,hX⟩:∃m,tq x=m:=⟨_,rfl⟩;obtain ⟨Y,hY⟩:∃m,tq y=m:=⟨_,rfl⟩;obtain ⟨r,hr⟩:∃r,tq (x - y)=r:=⟨_,rfl⟩;rw [hX,hY,hr] at HS;rw [hr] at HG;rw [hX,hY];clear hg hx hy hk hm hk2 hm2 hX hY hr;go_enter func13,ntmps13;go_wp2_with (first|(go_at_call 43;(with_reducible refine mo0 (HS.o _) fun w1 hb1 hc1 hf1 _=> ?_))|(go_at_call 16;(with_reducible refine mo0 (HG.o _) fun w2 hb2 hc2 hf2 _=> ?_)))
 go_ret;exact ⟨rfl,bi⟩
theorem jlI {n:Nat} (hn:n < 9223372036854775808):Calls prog 8 #[.int .i64 (n:Int)] w (QP (((n:Int):Int):Rat) w):=by
 unfold QP;rw [jgI];have HW:=qh (fun W=>jhW (w:=W) hn);have HT:=qh (fun W (u:Value) (h:Rz W u (n:Int) 3)=>jb7 h (by omega));obtain ⟨R,hR⟩:∃R,zt (n:Int)=R:=⟨_,rfl⟩;rw [hR] at HT ⊢;clear hn hR;go_enter func8,ntmps8;go_wp2_with first|(go_at_call 29;(with_reducible refine (HW.o _).mono ?_);rintro e4 w4 ⟨r4,rfl,x4,hb4⟩;have _:=bm hb4;have H4:=qh x4;clear x4)|(go_at_call 28;(with_reducible refine mz (HT.o _ _ H4.o) fun w5 hb5 _=> ?_))
 go_ret;exact ⟨rfl,bi⟩
def jws (x y:Rat):Rat:=if y < x then y else x
theorem jyp (hx:Dz k x) (hy:Dz m y) (hk:0 < k) (hm:0 < m) (hk2:k≤9000) (hm2:m≤9000):Calls prog 11 #[bs (tq x),bs (tq y)] w (QP (jws x y) w):=by
 obtain ⟨g,hg⟩:∃g,Rq.cmpQ x y=g:=⟨_,rfl⟩;have HC:=qh (fun W=>jko (w:=W) hg hx hy hk hm hk2 hm2)
 have hm:jws x y=if decide (g≤0)=true then x else y:=by
  unfold jws;by_cases h:y < x
  ·rw [if_pos h,if_neg];have:=Rq.cmp_pos.2 h;rw [decide_eq_true_iff];omega
  ·rw [if_neg h,if_pos];rw [decide_eq_true_iff];have:¬0 < Rq.cmpQ x y:=fun e=>h (Rq.cmp_pos.1 e)
   omega
 rw [hm];obtain ⟨b,hb⟩:∃b,decide (g≤0)=b:=⟨_,rfl⟩;rw [hb];unfold QP;obtain ⟨X,hX⟩:∃X,tq x=X:=⟨_,rfl⟩;obtain ⟨Y,hY⟩:∃X,tq y=X:=⟨_,rfl⟩;rw [apply_ite tq];rw [hX,hY] at HC ⊢;clear hx hy hk hk2 hm2 hm hX hY hg;go_enter func11,ntmps11;cases b
 ·go_wp2_with (go_at_call 13;(with_reducible refine mo0 (HC.o _) fun w1 hb1 hc1 hf1 _=> ?_))
  go_ret;exact ⟨rfl,bi⟩
 ·go_wp2_with (go_at_call 13;(with_reducible refine mo0 (HC.o _) fun w1 hb1 hc1 hf1 _=> ?_))
  go_ret;exact ⟨rfl,bi⟩
end

section
variable {w:World} {x y:Rat} {k m:Nat}
end
section
variable {w:World} {x s:Rat} {kind step a:List UInt8}
end

theorem mul_div_cancel {x s:Rat} (h:0 < s):x / s*s=x:=by
 rw [Rat.div_def,Rat.mul_assoc,Rat.inv_mul_cancel _ (by grind),Rat.mul_one]

theorem Dz.of {x:Rat} {k:Nat} (h1:(Lib.decDigits x.num.natAbs).length≤k) (h2:(Lib.decDigits x.den).length≤k):Dz k x:=
 ⟨Nat.lt_of_lt_of_le (jeT _) (jbM h1),Nat.lt_of_lt_of_le (jeT _) (jbM h2)⟩
theorem IsNum.dz {l:List UInt8} {x:Rat} (h:IsNum l x):Dz 600 x:=Dz.of h.num h.den
section
variable {w:World} {kind step:List UInt8}
end

theorem Dz.lt {k:Nat} {x:Rat} (h:Dz k x):x < (((10^k:Nat):Int):Rat):=by
 rw [Rat.lt_iff,Rat.num_intCast,Rat.den_intCast];have h1:=h.num;have h2:=x.den_pos;have h3:10^k≤10^k*x.den:=Nat.le_mul_of_pos_right _ h2;have h4:(((10^k:Nat):Int))*(x.den:Int)=((10^k*x.den:Nat):Int):=by rw [Int.natCast_mul]
 rw [h4];omega
theorem jp0 {x:Rat} {k:Nat} (h:Dz k x) (hk:0 < k) (hk2:k≤600):jcF x=tq x∧jbq x=0∧IsNum (tq x) x:=by
 have h1:=jb0 h.num hk;have h2:=jb0 h.den hk
 have h3:je3 x=false:=by
  unfold je3 lng;rw [Int.natAbs_natCast,decide_eq_false (by omega),decide_eq_false (by omega)];rfl
 unfold jcF jbq;rw [h3];exact ⟨rfl,rfl,rfl,by omega,by omega⟩
theorem Dz.small {x:Rat} (h:Dz 18 x):SmallQ x:=by
 have h1:=h.num;have h2:=h.den;have e:(10:Nat)^18=1000000000000000000:=by decide
 rw [e] at h1 h2;exact ⟨by omega,by omega,by omega⟩
theorem Fw.dz {x:Rat} {l:List UInt8} {d:Int} (h:Fw d l x):Dz d.toNat x:=Dz.of (by have:=h.num;omega) (by have:=h.den;omega)
section
variable {w:World} {a b kind step:List UInt8} {x y s:Rat}
end

section
variable {w:World} {x lo hi:Rat} {k:Nat}
end
section
variable {w:World} {A:Option Addr} {n c:Nat} {ls:List (List UInt8×List UInt8)} {d m:Int}
end
section
variable {w:World} {lo hi:Rat} {k:Nat}
end
section
variable {w:World} {A B:Option Addr} {n c d k:Nat} {ls:List (List UInt8)} {qs:List Rat} {ws:List Int}
end

section
variable {w:World} {x:Rat} {k:Nat}
end

theorem IsNum.dzl {l:List UInt8} {x:Rat} {k:Nat} (h:IsNum l x) (hl:l.length≤k) (hk:0 < k):Dz k x:=by
 have h1:=jdX x
 have h2:(uq x).length≤l.length:=by
  rw [h.1,jcP];split
  ·simp
  ·exact Nat.le_refl _
 refine Dz.of (by omega) ?_;by_cases e:x.den=1
 ·rw [e,jnL];exact hk
 ·rw [if_neg e] at h1;omega
section
variable {w:World} {a b:List UInt8} {x y:Rat} {k m:Nat}
end

section
variable {w:World} {a b:List UInt8} {x y:Rat} {k m:Nat}
theorem jxR {g:Int} (la:a.length≤9000) (lb:b.length≤9000) (hg:jwt (a,b)=g):Calls prog 10 #[sp a b] w fun e w'=>e= .returned (.int .i64 g)∧Below w.heap.size w w':=by
 unfold jwt at hg;by_cases h1:chk a=0
 ·have HC1:=qh (fun W=>jpl (w:=W) h1 (by omega));by_cases h2:chk b=0
  ·have HC2:=qh (fun W=>jpl (w:=W) h2 (by omega));have hx:=jjb h1;have hy:=jjb h2;have e:jar chk [a,b]=0:=by simp [jar,h1,h2]
   rw [if_neg (by simpa using e)] at hg;obtain ⟨z,hz⟩:∃z,Rq.cmpQ (numQ a) (numQ b)=z:=⟨_,rfl⟩;have HP:=qh (fun W=>jko (w:=W) hz (hx.dzl la (by omega)) (hy.dzl lb (by omega)) (by omega) (by omega) (by omega) (by omega));rw [←hx.eq,←hy.eq] at HP;by_cases h:0 < z
   ·have q1:decide (0 < z)=true:=by rw [decide_eq_true_iff];exact h
    have e2:numQ b < numQ a:=Rq.cmp_pos.1 (by rw [hz];exact h);rw [if_pos e2] at hg;subst hg;clear hx hy e hz h e2 h1 h2 la lb;go_enter func10,ntmps10;go_wp2_with (first|(go_at_call 17;(with_reducible show Calls _ _ #[bs a] _ _);(with_reducible refine mo1 w (HC1.o _) (by go_size) fun w1 hb1 hc1 hf1 z1_0 _=> ?_))|(go_at_call 17;(with_reducible show Calls _ _ #[bs b] _ _);(with_reducible refine mo1 w (HC2.o _) (by go_size) fun w2 hb2 hc2 hf2 z2_0 _=> ?_))|(go_at_call 13;(with_reducible refine mo1 w (HP.o _) (by go_size) fun w3 hb3 hc3 hf3 z3_0 _=> ?_)))
    go_ret;exact ⟨rfl,bi⟩
   ·have q1:decide (0 < z)=false:=by rw [decide_eq_false_iff_not];exact h
    have e2:¬numQ b < numQ a:=fun e=>h (by rw [←hz];exact Rq.cmp_pos.2 e)
    rw [if_neg e2] at hg;subst hg;clear hx hy e hz h e2 h1 h2 la lb;go_enter func10,ntmps10;go_wp2_with (first|(go_at_call 17;(with_reducible show Calls _ _ #[bs a] _ _);(with_reducible refine mo1 w (HC1.o _) (by go_size) fun w1 hb1 hc1 hf1 z1_0 _=> ?_))|(go_at_call 17;(with_reducible show Calls _ _ #[bs b] _ _);(with_reducible refine mo1 w (HC2.o _) (by go_size) fun w2 hb2 hc2 hf2 z2_0 _=> ?_))|(go_at_call 13;(with_reducible refine mo1 w (HP.o _) (by go_size) fun w3 hb3 hc3 hf3 z3_0 _=> ?_)))
    go_ret;exact ⟨rfl,bi⟩
  ·obtain ⟨z,hz⟩:∃z,chk b=z:=⟨_,rfl⟩;have HC2:=qh (fun W=>jpl (w:=W) hz (by omega));have e:jar chk [a,b]=z:=by rw [hz] at h2;simp [jar,h1,hz,h2]
   rw [hz] at h2;rw [e,if_pos h2] at hg;subst hg;have q1:(z==0)=false:=by rw [beq_eq_false_iff_ne];exact h2
   clear hz e h1 h2 la lb;go_enter func10,ntmps10;go_wp2_with (first|(go_at_call 17;(with_reducible show Calls _ _ #[bs a] _ _);(with_reducible refine mo1 w (HC1.o _) (by go_size) fun w1 hb1 hc1 hf1 z1_0 _=> ?_))|(go_at_call 17;(with_reducible show Calls _ _ #[bs b] _ _);(with_reducible refine mo1 w (HC2.o _) (by go_size) fun w2 hb2 hc2 hf2 z2_0 _=> ?_)))
   go_ret;exact ⟨rfl,bi⟩
 ·obtain ⟨z,hz⟩:∃z,chk a=z:=⟨_,rfl⟩;have HC1:=qh (fun W=>jpl (w:=W) hz (by omega));have e:jar chk [a,b]=z:=by rw [hz] at h1;simp [jar,hz,h1]
  rw [hz] at h1;rw [e,if_pos h1] at hg;subst hg;have q1:(z==0)=false:=by rw [beq_eq_false_iff_ne];exact h1
  clear hz e h1 la lb;go_enter func10,ntmps10;go_wp2_with (go_at_call 17;(with_reducible show Calls _ _ #[bs a] _ _);(with_reducible refine mo1 w (HC1.o _) (by go_size) fun w1 hb1 hc1 hf1 z1_0 _=> ?_))
  go_ret;exact ⟨rfl,bi⟩
end

section
variable {w:World} {a1 a2 b1 b2 l h p q r s m1 m2 n1 n2:List UInt8}
end
end Go.Proofs.YtfagcpcikjlboaaGreatDoor
