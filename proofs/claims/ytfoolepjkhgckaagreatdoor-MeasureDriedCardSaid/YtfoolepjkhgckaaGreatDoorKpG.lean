/- Parts. -/
import Derived.Test.YtfoolepjkhgckaaGreatDoorKnG
import Derived.Test.YtfoolepjkhgckaaGreatDoorPd
set_option linter.all false
set_option maxRecDepth 100000
set_option maxHeartbeats 8000000
namespace Go.Proofs.YtfoolepjkhgckaaGreatDoor
open Go Go.RowKit

abbrev QP (x:Rat) (w:World) (e:Ending) (w':World):Prop:=e= .returned (bs (tq x))∧Below w.heap.size w w'
theorem Pz.at {x y:Int} {L M:Nat} {w w':World} {e:Ending} (h:Pz x y L M w e w') {s t:Bool} (hs:decide (x < 0)=s) (ht:decide (y < 0)=t):∃A n c B m d,e= .returned (.tuple #[.agg #[.bool s, .slice A n c], .agg #[.bool t, .slice B m d]])∧(Rz w' (.agg #[.bool s, .slice A n c]) x L∧Rz w' (.agg #[.bool t, .slice B m d]) y M)∧Below w.heap.size w w':=by
 obtain ⟨u,v,rfl,⟨A,n,c,ds,rfl,h1,h2⟩,⟨B,m,d,es,rfl,h3,h4⟩,hb⟩:=h
 rw [hs,ht]
 exact ⟨A,n,c,B,m,d,rfl,⟨⟨A,n,c,ds,by rw [hs],h1,h2⟩,⟨B,m,d,es,by rw [ht],h3,h4⟩⟩,hb⟩
theorem jcR {w w':World} {T S:TypeId} {c d:Array Value} (hb:Below ((w.alloc (.cells c T)).alloc (.cells d S)).heap.size ((w.alloc (.cells c T)).alloc (.cells d S)) w'):Blk w' w.heap.size T c∧Blk w' (w.heap.size+1) S d∧Below w.heap.size w w':=by
 refine ⟨((Blk.new w T c).below (ja4 (Below.refl _ _) _)).below hb, ?_,ja1 (ja4 (ja4 (Below.refl _ _) _) _) hb⟩
 have:=(Blk.new (w.alloc (.cells c T)) S d).below hb
 simpa using this
section
variable {w:World} {x y:Rat} {k m:Nat}
theorem joV (hx:Dz k x) (hy:Dz m y) (hk:0 < k) (hm:0 < m) (hk2:k≤9000) (hm2:m≤9000) (hsm:¬(Sm x∧Sm y)):Calls Tryz.prog 45 #[bs (tq x),bs (tq y)] w (QP (x+y) w):=by
 obtain ⟨b1,hb1⟩:∃b,sm9 x=b:=⟨_,rfl⟩
 obtain ⟨b2,hb2⟩:∃b,sm9 y=b:=⟨_,rfl⟩
 have hbb:(b1 && b2)=false:=by
  rw [←hb1,←hb2]
  by_cases h1:sm9 x=true
  ·by_cases h2:sm9 y=true
   ·exact absurd ⟨jeI.1 h1,jeI.1 h2⟩ hsm
   ·rw [Bool.not_eq_true] at h2;rw [h2];simp
  ·rw [Bool.not_eq_true] at h1;rw [h1];rfl
 have HQ1:=qh (fun W=>jh0 (w:=W) hb1 hx hk (by omega))
 have HQ2:=qh (fun W=>jh0 (w:=W) hb2 hy hm (by omega))
 obtain ⟨s1,hs1⟩:∃b,decide (x.num < 0)=b:=⟨_,rfl⟩
 obtain ⟨s2,hs2⟩:∃b,decide (y.num < 0)=b:=⟨_,rfl⟩
 have HP1:=qh (fun W=>(je5 (w:=W) hx hk (by omega)).mono fun e w' h=>h.at hs1 (show decide ((x.den:Int) < 0)=false by rw [decide_eq_false_iff_not];omega))
 have HP2:=qh (fun W=>(je5 (w:=W) hy hm (by omega)).mono fun e w' h=>h.at hs2 (show decide ((y.den:Int) < 0)=false by rw [decide_eq_false_iff_not];omega))
 obtain ⟨X,hX⟩:∃X,tq x=X:=⟨_,rfl⟩
 obtain ⟨Y,hY⟩:∃X,tq y=X:=⟨_,rfl⟩
 rw [hX] at HQ1 HP1 ⊢
 rw [hY] at HQ2 HP2 ⊢
 obtain ⟨p,hp⟩:∃b,x.num=b:=⟨_,rfl⟩
 obtain ⟨q,hq⟩:∃b,x.den=b:=⟨_,rfl⟩
 obtain ⟨r,hr⟩:∃b,y.num=b:=⟨_,rfl⟩
 obtain ⟨s,hs⟩:∃b,y.den=b:=⟨_,rfl⟩
 have hq0:0 < q:=by rw [←hq];exact x.den_pos
 have hs0:0 < s:=by rw [←hs];exact y.den_pos
 have HH:=qh (And.intro (show k+3≤9003 by omega) (And.intro (show m+3≤9003 by omega) (show (q:Int)*(s:Int)≠0 from Int.mul_ne_zero (by omega) (by omega))))
 rw [hp,hq] at HP1
 rw [hr,hs] at HP2
 obtain ⟨R,hR⟩:∃R,tq (x+y)=R:=⟨_,rfl⟩
 have HE:=qh (show tq (Rat.divInt (p*(s:Int)+r*(q:Int)) ((q:Int)*(s:Int)))=R by rw [←hR,Rq.add_eq,hp,hq,hr,hs])
 unfold QP
 rw [hR]
 clear hx hy hk hm hk2 hm2 hsm hb1 hb2 hX hY hs1 hs2 hp hq hr hs hq0 hs0 hR
 go_enter Tryz.func45,Tryz.ntmps45
 cases b1 with
 | false=>
   go_upto_region 5 with first|(go_at_call 71;(with_reducible refine (HQ1.out _).mono ?_);rintro e1 w1 ⟨n1,d1,rfl,hb1⟩;have _:=bm hb1)|(go_at_call 71;(with_reducible refine (HQ2.out _).mono ?_);rintro e2 w2 ⟨n2,d2,rfl,hb2⟩;have _:=bm hb2)
   go_upto_region 7 with first|(go_at_call 73;(with_reducible refine (HP1.out _).mono ?_);rintro e3 w3 ⟨A,i,c,B,j,d,rfl,h3,hb3⟩;have _:=bm hb3;have H3:=qh h3;clear h3)|(go_at_call 73;(with_reducible refine (HP2.out _).mono ?_);rintro e4 w4 ⟨C,i',c',D,j',d',rfl,h4,hb4⟩;have _:=bm hb4;have H4:=qh h4;clear h4)
   obtain ⟨B1,B2,B3⟩:=jcR hb4
   obtain ⟨V,hV⟩:∃V,(w4.alloc (.cells #[.bool s2, .slice C i' c'] 99)).alloc (.cells #[.bool false, .slice D j' d'] 99)=V:=⟨_,rfl⟩
   obtain ⟨B4,B5,B6⟩:=jcR (w:=w4) (T:=99) (S:=99) (c:= #[.bool s2, .slice C i' c']) (d:= #[.bool false, .slice D j' d']) (w':=V) (by rw [hV];exact Below.refl _ _)
   have bV:Below w.heap.size w V:=ja1 (ja1 (ja1 (ja1 hb1 hb2) hb3) B3) B6
   obtain ⟨v1,v2, -⟩:=jak (B1.below B6)
   obtain ⟨v3,v4, -⟩:=jak (B2.below B6)
   obtain ⟨v5,v6, -⟩:=jak B4
   obtain ⟨v7,v8, -⟩:=jak B5
   have z0:=(B1.below B6).lt
   have z1:=(B2.below B6).lt
   have z2:=B4.lt
   have z3:=B5.lt
   have R1:=H3.out.1.below (ja1 B3 B6)
   have R2:=H3.out.2.below (ja1 B3 B6)
   have R3:=H4.out.1.below B6
   have R4:=H4.out.2.below B6
   rw [hV]
   clear hV H3 H4 B1 B2 B3 B4 B5 B6 hb1 hb2 hb3 hb4 HQ1 HQ2 HP1 HP2 hbb
   have HT1:=qh (fun W (hb:Below V.heap.size V W)=>jbc (R1.below hb) (R4.below hb) (by have:=HH.out;omega) (by have:=HH.out;omega))
   have HT2:=qh (fun W (hb:Below V.heap.size V W)=>jbc (R3.below hb) (R2.below hb) (by have:=HH.out;omega) (by have:=HH.out;omega))
   have HT3:=qh (fun W (hb:Below V.heap.size V W)=>jbc (R2.below hb) (R4.below hb) (by have:=HH.out;omega) (by have:=HH.out;omega))
   have HFR:=qh (fun W (u v:Value) L M (h:Rz W u (p*(s:Int)+r*(q:Int)) L) (h':Rz W v ((q:Int)*(s:Int)) M) (hL:L≤20000) (hM:M≤20000)=>(show Calls Tryz.prog 74 #[u,v] W fun e w'=>e= .returned (bs R)∧Below W.heap.size W w' from by
    have:=jbA h h' hL hM HH.out.2.2
    rwa [HE.out] at this))
   clear R1 R2 R3 R4
   refine ja3 (fun w'=>Below V.heap.size V w') [] (by kernel_rfl) ?_
   refine tb 0 (.agg #[.bool s1, .slice A i c]) [2] rfl (by kernel_rfl) pk rfl (by intros;go_simp) bq0 ?_
   simp only [ppq]
   refine tb 1 (.agg #[.bool false, .slice D j' d']) [2] rfl (by kernel_rfl) pk rfl (by intros;go_simp) bq0 ?_
   simp only [ppq]
   refine tb 3 (.agg #[.bool s2, .slice C i' c']) [5] rfl (by kernel_rfl) pk rfl (by intros;go_simp) bq0 ?_
   simp only [ppq]
   refine tb 4 (.agg #[.bool false, .slice B j d]) [5] rfl (by kernel_rfl) pk rfl (by intros;go_simp) bq0 ?_
   simp only [ppq]
   refine tb 7 (.agg #[.bool false, .slice B j d]) [9] rfl (by kernel_rfl) pk rfl (by intros;go_simp) bq0 ?_
   simp only [ppq]
   refine tb 8 (.agg #[.bool false, .slice D j' d']) [9] rfl (by kernel_rfl) pk rfl (by intros;go_simp) bq0 ?_
   simp only [ppq]
   refine rd1 2 (by kernel_rfl) rfl (fun K hK=> ?_)
   go_simp
   go_wp2_with (go_at_call 75;(with_reducible refine (HT1.out _ bq0).mono ?_);rintro e12 w12 ⟨r12,rfl,x12,hb12⟩;have _:=bm hb12;have H12:=qh x12;clear x12)
   have sS12:=qh (bst bq0 hb12)
   refine hK.out _ _ (fun _=>sS12.out) ?_
   clear hK K
   refine rd1 5 (by kernel_rfl) rfl (fun K hK=> ?_)
   go_simp
   go_wp2_with (go_at_call 75;(with_reducible refine (HT2.out _ sS12.out).mono ?_);rintro e13 w13 ⟨r13,rfl,x13,hb13⟩;have _:=bm hb13;have H13:=qh x13;clear x13)
   have sS13:=qh (bst sS12.out hb13)
   refine hK.out _ _ (fun _=>sS13.out) ?_
   clear hK K
   refine rd1 6 (by kernel_rfl) rfl (fun K hK=> ?_)
   go_simp
   go_wp2_with (go_at_call 102;(with_reducible refine (jjT (H12.out.below hb13) H13.out (by have:=HH.out;omega) (by have:=HH.out;omega)).mono ?_);rintro e14 w14 ⟨r14,rfl,x14,hb14⟩;have _:=bm hb14;have H14:=qh x14;clear x14)
   have sS14:=qh (bst sS13.out hb14)
   refine hK.out _ _ (fun _=>sS14.out) ?_
   clear hK K
   refine rd1 9 (by kernel_rfl) rfl (fun K hK=> ?_)
   go_simp
   go_wp2_with (go_at_call 75;(with_reducible refine (HT3.out _ sS14.out).mono ?_);rintro e15 w15 ⟨r15,rfl,x15,hb15⟩;have _:=bm hb15;have H15:=qh x15;clear x15)
   have sS15:=qh (bst sS14.out hb15)
   refine hK.out _ _ (fun _=>sS15.out) ?_
   clear hK K
   refine rd1 10 (by kernel_rfl) rfl (fun K hK=> ?_)
   go_simp
   go_wp2_with (go_at_call 74;(with_reducible refine mz (HFR.out _ _ _ _ _ (H14.out.below hb15) H15.out (by have:=HH.out;omega) (by have:=HH.out;omega)) fun w16 hb16 _=> ?_))
   have sS16:=qh (bst sS15.out hb16)
   refine hK.out _ _ (fun _=>sS16.out) ?_
   clear hK K
   refine rd1 11 (by kernel_rfl) rfl (fun K hK=> ?_)
   go_simp
   refine hK.out _ _ (fun _=>bi) ?_
   clear hK K
   refine ja2 (by kernel_rfl) ?_ _
   have bE:=ja1 bV sS16.out
   go_wp2
   go_ret
   exact ⟨rfl,(bq (by with_reducible repeat' first|assumption|constructor|go_size))⟩
 | true=>
   cases b2 with
   | true=>cases hbb
   | false=>
     go_upto_region 5 with first|(go_at_call 71;(with_reducible refine (HQ1.out _).mono ?_);rintro e1 w1 ⟨n1,d1,rfl,hb1⟩;have _:=bm hb1)|(go_at_call 71;(with_reducible refine (HQ2.out _).mono ?_);rintro e2 w2 ⟨n2,d2,rfl,hb2⟩;have _:=bm hb2)
     go_upto_region 7 with first|(go_at_call 73;(with_reducible refine (HP1.out _).mono ?_);rintro e3 w3 ⟨A,i,c,B,j,d,rfl,h3,hb3⟩;have _:=bm hb3;have H3:=qh h3;clear h3)|(go_at_call 73;(with_reducible refine (HP2.out _).mono ?_);rintro e4 w4 ⟨C,i',c',D,j',d',rfl,h4,hb4⟩;have _:=bm hb4;have H4:=qh h4;clear h4)
     obtain ⟨B1,B2,B3⟩:=jcR hb4
     obtain ⟨V,hV⟩:∃V,(w4.alloc (.cells #[.bool s2, .slice C i' c'] 99)).alloc (.cells #[.bool false, .slice D j' d'] 99)=V:=⟨_,rfl⟩
     obtain ⟨B4,B5,B6⟩:=jcR (w:=w4) (T:=99) (S:=99) (c:= #[.bool s2, .slice C i' c']) (d:= #[.bool false, .slice D j' d']) (w':=V) (by rw [hV];exact Below.refl _ _)
     have bV:Below w.heap.size w V:=ja1 (ja1 (ja1 (ja1 hb1 hb2) hb3) B3) B6
     obtain ⟨v1,v2, -⟩:=jak (B1.below B6)
     obtain ⟨v3,v4, -⟩:=jak (B2.below B6)
     obtain ⟨v5,v6, -⟩:=jak B4
     obtain ⟨v7,v8, -⟩:=jak B5
     have z0:=(B1.below B6).lt
     have z1:=(B2.below B6).lt
     have z2:=B4.lt
     have z3:=B5.lt
     have R1:=H3.out.1.below (ja1 B3 B6)
     have R2:=H3.out.2.below (ja1 B3 B6)
     have R3:=H4.out.1.below B6
     have R4:=H4.out.2.below B6
     rw [hV]
     clear hV H3 H4 B1 B2 B3 B4 B5 B6 hb1 hb2 hb3 hb4 HQ1 HQ2 HP1 HP2 hbb
     have HT1:=qh (fun W (hb:Below V.heap.size V W)=>jbc (R1.below hb) (R4.below hb) (by have:=HH.out;omega) (by have:=HH.out;omega))
     have HT2:=qh (fun W (hb:Below V.heap.size V W)=>jbc (R3.below hb) (R2.below hb) (by have:=HH.out;omega) (by have:=HH.out;omega))
     have HT3:=qh (fun W (hb:Below V.heap.size V W)=>jbc (R2.below hb) (R4.below hb) (by have:=HH.out;omega) (by have:=HH.out;omega))
     have HFR:=qh (fun W (u v:Value) L M (h:Rz W u (p*(s:Int)+r*(q:Int)) L) (h':Rz W v ((q:Int)*(s:Int)) M) (hL:L≤20000) (hM:M≤20000)=>(show Calls Tryz.prog 74 #[u,v] W fun e w'=>e= .returned (bs R)∧Below W.heap.size W w' from by
      have:=jbA h h' hL hM HH.out.2.2
      rwa [HE.out] at this))
     clear R1 R2 R3 R4
     refine ja3 (fun w'=>Below V.heap.size V w') [] (by kernel_rfl) ?_
     refine tb 0 (.agg #[.bool s1, .slice A i c]) [2] rfl (by kernel_rfl) pk rfl (by intros;go_simp) bq0 ?_
     simp only [ppq]
     refine tb 1 (.agg #[.bool false, .slice D j' d']) [2] rfl (by kernel_rfl) pk rfl (by intros;go_simp) bq0 ?_
     simp only [ppq]
     refine tb 3 (.agg #[.bool s2, .slice C i' c']) [5] rfl (by kernel_rfl) pk rfl (by intros;go_simp) bq0 ?_
     simp only [ppq]
     refine tb 4 (.agg #[.bool false, .slice B j d]) [5] rfl (by kernel_rfl) pk rfl (by intros;go_simp) bq0 ?_
     simp only [ppq]
     refine tb 7 (.agg #[.bool false, .slice B j d]) [9] rfl (by kernel_rfl) pk rfl (by intros;go_simp) bq0 ?_
     simp only [ppq]
     refine tb 8 (.agg #[.bool false, .slice D j' d']) [9] rfl (by kernel_rfl) pk rfl (by intros;go_simp) bq0 ?_
     simp only [ppq]
     refine rd1 2 (by kernel_rfl) rfl (fun K hK=> ?_)
     go_simp
     go_wp2_with (go_at_call 75;(with_reducible refine (HT1.out _ bq0).mono ?_);rintro e12 w12 ⟨r12,rfl,x12,hb12⟩;have _:=bm hb12;have H12:=qh x12;clear x12)
     have sS12:=qh (bst bq0 hb12)
     refine hK.out _ _ (fun _=>sS12.out) ?_
     clear hK K
     refine rd1 5 (by kernel_rfl) rfl (fun K hK=> ?_)
     go_simp
     go_wp2_with (go_at_call 75;(with_reducible refine (HT2.out _ sS12.out).mono ?_);rintro e13 w13 ⟨r13,rfl,x13,hb13⟩;have _:=bm hb13;have H13:=qh x13;clear x13)
     have sS13:=qh (bst sS12.out hb13)
     refine hK.out _ _ (fun _=>sS13.out) ?_
     clear hK K
     refine rd1 6 (by kernel_rfl) rfl (fun K hK=> ?_)
     go_simp
     go_wp2_with (go_at_call 102;(with_reducible refine (jjT (H12.out.below hb13) H13.out (by have:=HH.out;omega) (by have:=HH.out;omega)).mono ?_);rintro e14 w14 ⟨r14,rfl,x14,hb14⟩;have _:=bm hb14;have H14:=qh x14;clear x14)
     have sS14:=qh (bst sS13.out hb14)
     refine hK.out _ _ (fun _=>sS14.out) ?_
     clear hK K
     refine rd1 9 (by kernel_rfl) rfl (fun K hK=> ?_)
     go_simp
     go_wp2_with (go_at_call 75;(with_reducible refine (HT3.out _ sS14.out).mono ?_);rintro e15 w15 ⟨r15,rfl,x15,hb15⟩;have _:=bm hb15;have H15:=qh x15;clear x15)
     have sS15:=qh (bst sS14.out hb15)
     refine hK.out _ _ (fun _=>sS15.out) ?_
     clear hK K
     refine rd1 10 (by kernel_rfl) rfl (fun K hK=> ?_)
     go_simp
     go_wp2_with (go_at_call 74;(with_reducible refine mz (HFR.out _ _ _ _ _ (H14.out.below hb15) H15.out (by have:=HH.out;omega) (by have:=HH.out;omega)) fun w16 hb16 _=> ?_))
     have sS16:=qh (bst sS15.out hb16)
     refine hK.out _ _ (fun _=>sS16.out) ?_
     clear hK K
     refine rd1 11 (by kernel_rfl) rfl (fun K hK=> ?_)
     go_simp
     refine hK.out _ _ (fun _=>bi) ?_
     clear hK K
     refine ja2 (by kernel_rfl) ?_ _
     have bE:=ja1 bV sS16.out
     go_wp2
     go_ret
     exact ⟨rfl,(bq (by with_reducible repeat' first|assumption|constructor|go_size))⟩
theorem joh (hx:Dz k x) (hy:Dz m y) (hk:0 < k) (hm:0 < m) (hk2:k≤9000) (hm2:m≤9000) (hsm:¬(Sm x∧Sm y)):Calls Tryz.prog 20 #[bs (tq x),bs (tq y)] w (QP (x*y) w):=by
 obtain ⟨b1,hb1⟩:∃b,sm9 x=b:=⟨_,rfl⟩
 obtain ⟨b2,hb2⟩:∃b,sm9 y=b:=⟨_,rfl⟩
 have hbb:(b1 && b2)=false:=by
  rw [←hb1,←hb2]
  by_cases h1:sm9 x=true
  ·by_cases h2:sm9 y=true
   ·exact absurd ⟨jeI.1 h1,jeI.1 h2⟩ hsm
   ·rw [Bool.not_eq_true] at h2;rw [h2];simp
  ·rw [Bool.not_eq_true] at h1;rw [h1];rfl
 have HQ1:=qh (fun W=>jh0 (w:=W) hb1 hx hk (by omega))
 have HQ2:=qh (fun W=>jh0 (w:=W) hb2 hy hm (by omega))
 obtain ⟨s1,hs1⟩:∃b,decide (x.num < 0)=b:=⟨_,rfl⟩
 obtain ⟨s2,hs2⟩:∃b,decide (y.num < 0)=b:=⟨_,rfl⟩
 have HP1:=qh (fun W=>(je5 (w:=W) hx hk (by omega)).mono fun e w' h=>h.at hs1 (show decide ((x.den:Int) < 0)=false by rw [decide_eq_false_iff_not];omega))
 have HP2:=qh (fun W=>(je5 (w:=W) hy hm (by omega)).mono fun e w' h=>h.at hs2 (show decide ((y.den:Int) < 0)=false by rw [decide_eq_false_iff_not];omega))
 obtain ⟨X,hX⟩:∃X,tq x=X:=⟨_,rfl⟩
 obtain ⟨Y,hY⟩:∃X,tq y=X:=⟨_,rfl⟩
 rw [hX] at HQ1 HP1 ⊢
 rw [hY] at HQ2 HP2 ⊢
 obtain ⟨p,hp⟩:∃b,x.num=b:=⟨_,rfl⟩
 obtain ⟨q,hq⟩:∃b,x.den=b:=⟨_,rfl⟩
 obtain ⟨r,hr⟩:∃b,y.num=b:=⟨_,rfl⟩
 obtain ⟨s,hs⟩:∃b,y.den=b:=⟨_,rfl⟩
 have hq0:0 < q:=by rw [←hq];exact x.den_pos
 have hs0:0 < s:=by rw [←hs];exact y.den_pos
 have HH:=qh (And.intro (show k+3≤9003 by omega) (And.intro (show m+3≤9003 by omega) (show (q:Int)*(s:Int)≠0 from Int.mul_ne_zero (by omega) (by omega))))
 rw [hp,hq] at HP1
 rw [hr,hs] at HP2
 obtain ⟨R,hR⟩:∃R,tq (x*y)=R:=⟨_,rfl⟩
 have HE:=qh (show tq (Rat.divInt (p*r) ((q:Int)*(s:Int)))=R by rw [←hR,Rq.mul_eq,hp,hq,hr,hs])
 unfold QP
 rw [hR]
 clear hx hy hk hm hk2 hm2 hsm hb1 hb2 hX hY hs1 hs2 hp hq hr hs hq0 hs0 hR
 go_enter Tryz.func20,Tryz.ntmps20
 cases b1 with
 | false=>
   go_upto_region 5 with first|(go_at_call 71;(with_reducible refine (HQ1.out _).mono ?_);rintro e1 w1 ⟨n1,d1,rfl,hb1⟩;have _:=bm hb1)|(go_at_call 71;(with_reducible refine (HQ2.out _).mono ?_);rintro e2 w2 ⟨n2,d2,rfl,hb2⟩;have _:=bm hb2)
   go_upto_region 7 with first|(go_at_call 73;(with_reducible refine (HP1.out _).mono ?_);rintro e3 w3 ⟨A,i,c,B,j,d,rfl,h3,hb3⟩;have _:=bm hb3;have H3:=qh h3;clear h3)|(go_at_call 73;(with_reducible refine (HP2.out _).mono ?_);rintro e4 w4 ⟨C,i',c',D,j',d',rfl,h4,hb4⟩;have _:=bm hb4;have H4:=qh h4;clear h4)
   obtain ⟨B1,B2,B3⟩:=jcR hb4
   obtain ⟨V,hV⟩:∃V,(w4.alloc (.cells #[.bool s2, .slice C i' c'] 99)).alloc (.cells #[.bool false, .slice D j' d'] 99)=V:=⟨_,rfl⟩
   obtain ⟨B4,B5,B6⟩:=jcR (w:=w4) (T:=99) (S:=99) (c:= #[.bool s2, .slice C i' c']) (d:= #[.bool false, .slice D j' d']) (w':=V) (by rw [hV];exact Below.refl _ _)
   have bV:Below w.heap.size w V:=ja1 (ja1 (ja1 (ja1 hb1 hb2) hb3) B3) B6
   obtain ⟨v1,v2, -⟩:=jak (B1.below B6)
   obtain ⟨v3,v4, -⟩:=jak (B2.below B6)
   obtain ⟨v5,v6, -⟩:=jak B4
   obtain ⟨v7,v8, -⟩:=jak B5
   have z0:=(B1.below B6).lt
   have z1:=(B2.below B6).lt
   have z2:=B4.lt
   have z3:=B5.lt
   have R1:=H3.out.1.below (ja1 B3 B6)
   have R2:=H3.out.2.below (ja1 B3 B6)
   have R3:=H4.out.1.below B6
   have R4:=H4.out.2.below B6
   rw [hV]
   clear hV H3 H4 B1 B2 B3 B4 B5 B6 hb1 hb2 hb3 hb4 HQ1 HQ2 HP1 HP2 hbb
   have HT1:=qh (fun W (hb:Below V.heap.size V W)=>jbc (R1.below hb) (R3.below hb) (by have:=HH.out;omega) (by have:=HH.out;omega))
   have HT3:=qh (fun W (hb:Below V.heap.size V W)=>jbc (R2.below hb) (R4.below hb) (by have:=HH.out;omega) (by have:=HH.out;omega))
   have HFR:=qh (fun W (u v:Value) L M (h:Rz W u (p*r) L) (h':Rz W v ((q:Int)*(s:Int)) M) (hL:L≤20000) (hM:M≤20000)=>(show Calls Tryz.prog 74 #[u,v] W fun e w'=>e= .returned (bs R)∧Below W.heap.size W w' from by
    have:=jbA h h' hL hM HH.out.2.2
    rwa [HE.out] at this))
   clear R1 R2 R3 R4
   refine ja3 (fun w'=>Below V.heap.size V w') [] (by kernel_rfl) ?_
   refine tb 0 (.agg #[.bool s1, .slice A i c]) [2] rfl (by kernel_rfl) pk rfl (by intros;go_simp) bq0 ?_
   simp only [ppq]
   refine tb 1 (.agg #[.bool s2, .slice C i' c']) [2] rfl (by kernel_rfl) pk rfl (by intros;go_simp) bq0 ?_
   simp only [ppq]
   refine tb 3 (.agg #[.bool false, .slice B j d]) [5] rfl (by kernel_rfl) pk rfl (by intros;go_simp) bq0 ?_
   simp only [ppq]
   refine tb 4 (.agg #[.bool false, .slice D j' d']) [5] rfl (by kernel_rfl) pk rfl (by intros;go_simp) bq0 ?_
   simp only [ppq]
   refine rd1 2 (by kernel_rfl) rfl (fun K hK=> ?_)
   go_simp
   go_wp2_with (go_at_call 75;(with_reducible refine (HT1.out _ bq0).mono ?_);rintro e12 w12 ⟨r12,rfl,x12,hb12⟩;have _:=bm hb12;have H12:=qh x12;clear x12)
   have sS12:=qh (bst bq0 hb12)
   refine hK.out _ _ (fun _=>sS12.out) ?_
   clear hK K
   refine rd1 5 (by kernel_rfl) rfl (fun K hK=> ?_)
   go_simp
   go_wp2_with (go_at_call 75;(with_reducible refine (HT3.out _ sS12.out).mono ?_);rintro e13 w13 ⟨r13,rfl,x13,hb13⟩;have _:=bm hb13;have H13:=qh x13;clear x13)
   have sS13:=qh (bst sS12.out hb13)
   refine hK.out _ _ (fun _=>sS13.out) ?_
   clear hK K
   refine rd1 6 (by kernel_rfl) rfl (fun K hK=> ?_)
   go_simp
   go_wp2_with (go_at_call 74;(with_reducible refine mz (HFR.out _ _ _ _ _ (H12.out.below hb13) H13.out (by have:=HH.out;omega) (by have:=HH.out;omega)) fun w16 hb16 _=> ?_))
   have sS16:=qh (bst sS13.out hb16)
   refine hK.out _ _ (fun _=>sS16.out) ?_
   clear hK K
   refine rd1 7 (by kernel_rfl) rfl (fun K hK=> ?_)
   go_simp
   refine hK.out _ _ (fun _=>bi) ?_
   clear hK K
   refine ja2 (by kernel_rfl) ?_ _
   have bE:=ja1 bV sS16.out
   go_wp2
   go_ret
   exact ⟨rfl,(bq (by with_reducible repeat' first|assumption|constructor|go_size))⟩
 | true=>
   cases b2 with
   | true=>cases hbb
   | false=>
     go_upto_region 5 with first|(go_at_call 71;(with_reducible refine (HQ1.out _).mono ?_);rintro e1 w1 ⟨n1,d1,rfl,hb1⟩;have _:=bm hb1)|(go_at_call 71;(with_reducible refine (HQ2.out _).mono ?_);rintro e2 w2 ⟨n2,d2,rfl,hb2⟩;have _:=bm hb2)
     go_upto_region 7 with first|(go_at_call 73;(with_reducible refine (HP1.out _).mono ?_);rintro e3 w3 ⟨A,i,c,B,j,d,rfl,h3,hb3⟩;have _:=bm hb3;have H3:=qh h3;clear h3)|(go_at_call 73;(with_reducible refine (HP2.out _).mono ?_);rintro e4 w4 ⟨C,i',c',D,j',d',rfl,h4,hb4⟩;have _:=bm hb4;have H4:=qh h4;clear h4)
     obtain ⟨B1,B2,B3⟩:=jcR hb4
     obtain ⟨V,hV⟩:∃V,(w4.alloc (.cells #[.bool s2, .slice C i' c'] 99)).alloc (.cells #[.bool false, .slice D j' d'] 99)=V:=⟨_,rfl⟩
     obtain ⟨B4,B5,B6⟩:=jcR (w:=w4) (T:=99) (S:=99) (c:= #[.bool s2, .slice C i' c']) (d:= #[.bool false, .slice D j' d']) (w':=V) (by rw [hV];exact Below.refl _ _)
     have bV:Below w.heap.size w V:=ja1 (ja1 (ja1 (ja1 hb1 hb2) hb3) B3) B6
     obtain ⟨v1,v2, -⟩:=jak (B1.below B6)
     obtain ⟨v3,v4, -⟩:=jak (B2.below B6)
     obtain ⟨v5,v6, -⟩:=jak B4
     obtain ⟨v7,v8, -⟩:=jak B5
     have z0:=(B1.below B6).lt
     have z1:=(B2.below B6).lt
     have z2:=B4.lt
     have z3:=B5.lt
     have R1:=H3.out.1.below (ja1 B3 B6)
     have R2:=H3.out.2.below (ja1 B3 B6)
     have R3:=H4.out.1.below B6
     have R4:=H4.out.2.below B6
     rw [hV]
     clear hV H3 H4 B1 B2 B3 B4 B5 B6 hb1 hb2 hb3 hb4 HQ1 HQ2 HP1 HP2 hbb
     have HT1:=qh (fun W (hb:Below V.heap.size V W)=>jbc (R1.below hb) (R3.below hb) (by have:=HH.out;omega) (by have:=HH.out;omega))
     have HT3:=qh (fun W (hb:Below V.heap.size V W)=>jbc (R2.below hb) (R4.below hb) (by have:=HH.out;omega) (by have:=HH.out;omega))
     have HFR:=qh (fun W (u v:Value) L M (h:Rz W u (p*r) L) (h':Rz W v ((q:Int)*(s:Int)) M) (hL:L≤20000) (hM:M≤20000)=>(show Calls Tryz.prog 74 #[u,v] W fun e w'=>e= .returned (bs R)∧Below W.heap.size W w' from by
      have:=jbA h h' hL hM HH.out.2.2
      rwa [HE.out] at this))
     clear R1 R2 R3 R4
     refine ja3 (fun w'=>Below V.heap.size V w') [] (by kernel_rfl) ?_
     refine tb 0 (.agg #[.bool s1, .slice A i c]) [2] rfl (by kernel_rfl) pk rfl (by intros;go_simp) bq0 ?_
     simp only [ppq]
     refine tb 1 (.agg #[.bool s2, .slice C i' c']) [2] rfl (by kernel_rfl) pk rfl (by intros;go_simp) bq0 ?_
     simp only [ppq]
     refine tb 3 (.agg #[.bool false, .slice B j d]) [5] rfl (by kernel_rfl) pk rfl (by intros;go_simp) bq0 ?_
     simp only [ppq]
     refine tb 4 (.agg #[.bool false, .slice D j' d']) [5] rfl (by kernel_rfl) pk rfl (by intros;go_simp) bq0 ?_
     simp only [ppq]
     refine rd1 2 (by kernel_rfl) rfl (fun K hK=> ?_)
     go_simp
     go_wp2_with (go_at_call 75;(with_reducible refine (HT1.out _ bq0).mono ?_);rintro e12 w12 ⟨r12,rfl,x12,hb12⟩;have _:=bm hb12;have H12:=qh x12;clear x12)
     have sS12:=qh (bst bq0 hb12)
     refine hK.out _ _ (fun _=>sS12.out) ?_
     clear hK K
     refine rd1 5 (by kernel_rfl) rfl (fun K hK=> ?_)
     go_simp
     go_wp2_with (go_at_call 75;(with_reducible refine (HT3.out _ sS12.out).mono ?_);rintro e13 w13 ⟨r13,rfl,x13,hb13⟩;have _:=bm hb13;have H13:=qh x13;clear x13)
     have sS13:=qh (bst sS12.out hb13)
     refine hK.out _ _ (fun _=>sS13.out) ?_
     clear hK K
     refine rd1 6 (by kernel_rfl) rfl (fun K hK=> ?_)
     go_simp
     go_wp2_with (go_at_call 74;(with_reducible refine mz (HFR.out _ _ _ _ _ (H12.out.below hb13) H13.out (by have:=HH.out;omega) (by have:=HH.out;omega)) fun w16 hb16 _=> ?_))
     have sS16:=qh (bst sS13.out hb16)
     refine hK.out _ _ (fun _=>sS16.out) ?_
     clear hK K
     refine rd1 7 (by kernel_rfl) rfl (fun K hK=> ?_)
     go_simp
     refine hK.out _ _ (fun _=>bi) ?_
     clear hK K
     refine ja2 (by kernel_rfl) ?_ _
     have bE:=ja1 bV sS16.out
     go_wp2
     go_ret
     exact ⟨rfl,(bq (by with_reducible repeat' first|assumption|constructor|go_size))⟩
theorem jtf (hx:Sm x) (hy:Sm y):Calls Tryz.prog 20 #[bs (tq x),bs (tq y)] w (QP (x*y) w):=by
 have HX:=qh (fun W=>jdX (w:=W) rfl hx)
 have HY:=qh (fun W=>jdX (w:=W) rfl hy)
 unfold QP
 rw [Rq.mul_eq]
 have b1: -1000000000000000000≤x.num*y.num∧x.num*y.num≤1000000000000000000:=by
  have h:=jgy hx.num hy.num
  have e:(x.num*y.num).natAbs=x.num.natAbs*y.num.natAbs:=Int.natAbs_mul ..
  omega
 have b3:=jgy hx.den hy.den
 have d1:=Nat.mul_pos x.den_pos y.den_pos
 obtain ⟨X,hX⟩:∃X,tq x=X:=⟨_,rfl⟩
 obtain ⟨Y,hY⟩:∃X,tq y=X:=⟨_,rfl⟩
 rw [hX] at HX ⊢
 rw [hY] at HY ⊢
 obtain ⟨n,hn⟩:∃n,x.num=n:=⟨_,rfl⟩
 obtain ⟨m,hm⟩:∃n,y.num=n:=⟨_,rfl⟩
 obtain ⟨d,hd⟩:∃n,x.den=n:=⟨_,rfl⟩
 obtain ⟨e,he⟩:∃n,y.den=n:=⟨_,rfl⟩
 rw [hn,hm,hd,he]
 rw [hn,hm] at b1
 rw [hd,he] at b3 d1
 rw [hn,hd] at HX
 rw [hm,he] at HY
 have m1:wrap64 (n*m)=n*m:=jg5 (jkx b1)
 have m4:wrap64 ((d:Int)*(e:Int))=(d:Int)*(e:Int):=by
  have:(d:Int)*(e:Int)=((d*e:Nat):Int):=by rw [Int.natCast_mul]
  rw [this];exact jg5 (jqR b3)
 have HO:Hid (∀W,Calls Tryz.prog 72 #[.int .i64 (n*m), .int .i64 ((d:Int)*(e:Int))] W fun r w'=>r= .returned (bs (tq (Rat.divInt (n*m) ((d:Int)*(e:Int)))))∧Below W.heap.size W w'):=qh (fun W=>by
  have:=jkn (w:=W) (a:=n*m) (d:=d*e) d1 (Nat.le_trans b3 (by decide)) (jqE (jkx b1))
  rwa [Int.natCast_mul] at this)
 obtain ⟨R,hR⟩:∃R,tq (Rat.divInt (n*m) ((d:Int)*(e:Int)))=R:=⟨_,rfl⟩
 rw [hR] at HO ⊢
 clear b1 b3 d1 hn hm hd he hR hX hY hx hy
 go_enter Tryz.func20,Tryz.ntmps20
 go_wp2_with (first|(go_at_call 71;(with_reducible show Calls _ _ #[bs X] _ _);(with_reducible refine mo0 (HX.out _) fun w1 hb1 hc1 hf1 _=> ?_))|(go_at_call 71;(with_reducible show Calls _ _ #[bs Y] _ _);(with_reducible refine mo0 (HY.out _) fun w2 hb2 hc2 hf2 _=> ?_))|(go_at_call 72;(with_reducible refine mo0 (HO.out _) fun w3 hb3 hc3 hf3 _=> ?_)))
 go_ret
 exact ⟨rfl,bi⟩
theorem jdP (hx:Dz k x) (hy:Dz m y) (hk:0 < k) (hm:0 < m) (hk2:k≤9000) (hm2:m≤9000):Calls Tryz.prog 45 #[bs (tq x),bs (tq y)] w (QP (x+y) w):=by
 by_cases h:Sm x∧Sm y
 ·exact jtm rfl rfl h.1 h.2
 ·exact joV hx hy hk hm hk2 hm2 h
theorem jbg (hx:Dz k x) (hy:Dz m y) (hk:0 < k) (hm:0 < m) (hk2:k≤9000) (hm2:m≤9000):Calls Tryz.prog 20 #[bs (tq x),bs (tq y)] w (QP (x*y) w):=by
 by_cases h:Sm x∧Sm y
 ·exact jtf h.1 h.2
 ·exact joh hx hy hk hm hk2 hm2 h
end

theorem Dz.inv {k:Nat} {x:Rat} (h:Dz k x) (h0:x≠0):Dz k x⁻¹:=by
 have hn:x.num≠0:=fun e=>h0 (Rat.num_eq_zero.1 e)
 rw [Rat.inv_def]
 rcases Int.lt_or_le x.num 0 with e|e
 ·have e2:x.num= -((x.num.natAbs:Nat):Int):=by omega
  have:Rat.divInt (x.den:Int) x.num=Rat.divInt (-(x.den:Int)) ((x.num.natAbs:Nat):Int):=by
   rw [←Rat.neg_divInt_neg,show -x.num=((x.num.natAbs:Nat):Int) by omega]
  rw [this]
  exact jdY (by omega) (by rw [Int.natAbs_neg,Int.natAbs_natCast];exact h.den) h.num
 ·have e2:x.num=((x.num.natAbs:Nat):Int):=by omega
  rw [e2]
  exact jdY (by omega) (by rw [Int.natAbs_natCast];exact h.den) h.num
theorem Dz.div {k m:Nat} {x y:Rat} (hx:Dz k x) (hy:Dz m y) (h0:y≠0):Dz (k+m) (x / y):=by
 rw [Rat.div_def];exact hx.mul (hy.inv h0)
theorem jkC (z:Int):tq ((z:Int):Rat)=zt z:=by
 rw [jh2];rfl
theorem jgj {k:Nat} {x:Rat} (h:Dz k x) (hk:0 < k) (hk2:k≤50000):(tq x).length≤100002:=by
 have:=jn6 h hk;omega
section
variable {w:World} {x y:Rat} {k m:Nat}
theorem jsj (hx:Dz k x) (hk:0 < k) (hk2:k≤9000) (h0:x≠0):Calls Tryz.prog 103 #[bs (tq x)] w (QP x⁻¹ w):=by
 have hn:x.num≠0:=fun e=>h0 (Rat.num_eq_zero.1 e)
 obtain ⟨s1,hs1⟩:∃b,decide (x.num < 0)=b:=⟨_,rfl⟩
 have HP:=qh (fun W=>(je5 (w:=W) hx hk (by omega)).mono fun e w' h=>h.at hs1 (show decide ((x.den:Int) < 0)=false by rw [decide_eq_false_iff_not];omega))
 obtain ⟨X,hX⟩:∃X,tq x=X:=⟨_,rfl⟩
 rw [hX] at HP ⊢
 obtain ⟨R,hR⟩:∃R,tq x⁻¹=R:=⟨_,rfl⟩
 have HF:=qh (fun W (u v:Value) (h:Rz W u (x.den:Int) (k+3)) (h':Rz W v x.num (k+3))=>(show Calls Tryz.prog 74 #[u,v] W fun e w'=>e= .returned (bs R)∧Below W.heap.size W w' from by
  have:=jbA h h' (by omega) (by omega) hn
  rwa [←Rat.inv_def,hR] at this))
 unfold QP
 rw [hR]
 clear hx hk hk2 h0 hn hs1 hX hR
 go_enter Tryz.func103,Tryz.ntmps103
 go_wp2_with first|(go_at_call 73;(with_reducible refine (HP.out _).mono ?_);rintro e3 w3 ⟨A,i,c,B,j,d,rfl,h3,hb3⟩;have _:=bm hb3;have H3:=qh h3;clear h3)|(go_at_call 74;(with_reducible refine mz (HF.out _ _ _ (H3.out.2.below bi) (H3.out.1.below bi)) fun w4 hb4 _=> ?_))
 go_ret
 exact ⟨rfl,bi⟩
theorem jfp (hx:Dz k x) (hy:Dz m y) (hk:0 < k) (hm:0 < m) (hk2:k≤9000) (hm2:m≤9000) (h0:y≠0):Calls Tryz.prog 47 #[bs (tq x),bs (tq y)] w (QP (x / y) w):=by
 have HN:=qh (fun W=>jsj (w:=W) hy hm hm2 h0)
 have HA:=qh (fun W=>jbg (w:=W) hx (hy.inv h0) hk hm hk2 hm2)
 rw [←Rat.div_def] at HA
 unfold QP at HN HA ⊢
 obtain ⟨X,hX⟩:∃m,tq x=m:=⟨_,rfl⟩
 obtain ⟨Y,hY⟩:∃m,tq y=m:=⟨_,rfl⟩
 obtain ⟨Z,hZ⟩:∃m,tq y⁻¹=m:=⟨_,rfl⟩
 obtain ⟨r,hr⟩:∃r,tq (x / y)=r:=⟨_,rfl⟩
 rw [hY,hZ] at HN
 rw [hX,hZ,hr] at HA
 rw [hX,hY,hr]
 clear hx hy hk hm hk2 hm2 h0 hX hY hZ hr
 go_enter Tryz.func47,Tryz.ntmps47
 go_wp2_with (first|(go_at_call 103;(with_reducible refine mo0 (HN.out _) fun w1 hb1 hc1 hf1 _=> ?_))|(go_at_call 20;(with_reducible refine mo0 (HA.out _) fun w2 hb2 hc2 hf2 _=> ?_)))
 go_ret
 exact ⟨rfl,bi⟩
theorem jtO (hx:Dz k x) (hk:0 < k) (hk2:k≤50000):Calls Tryz.prog 76 #[bs (tq x)] w (QP (-x) w):=
 js3 (jsU x) (by have:=jgj hx hk hk2;omega)
theorem jca (hx:Dz k x) (hy:Dz m y) (hk:0 < k) (hm:0 < m) (hk2:k≤9000) (hm2:m≤9000):Calls Tryz.prog 21 #[bs (tq x),bs (tq y)] w (QP (x - y) w):=by
 have HN:=qh (fun W=>jtO (w:=W) hy hm (by omega))
 have HA:=qh (fun W=>jdP (w:=W) hx hy.neg hk hm hk2 hm2)
 rw [←Rat.sub_eq_add_neg] at HA
 unfold QP at HN HA ⊢
 obtain ⟨X,hX⟩:∃m,tq x=m:=⟨_,rfl⟩
 obtain ⟨Y,hY⟩:∃m,tq y=m:=⟨_,rfl⟩
 obtain ⟨Z,hZ⟩:∃m,tq (-y)=m:=⟨_,rfl⟩
 obtain ⟨r,hr⟩:∃r,tq (x - y)=r:=⟨_,rfl⟩
 rw [hY,hZ] at HN
 rw [hX,hZ,hr] at HA
 rw [hX,hY,hr]
 clear hx hy hk hm hk2 hm2 hX hY hZ hr
 go_enter Tryz.func21,Tryz.ntmps21
 go_wp2_with (first|(go_at_call 76;(with_reducible refine mo0 (HN.out _) fun w1 hb1 hc1 hf1 _=> ?_))|(go_at_call 45;(with_reducible refine mo0 (HA.out _) fun w2 hb2 hc2 hf2 _=> ?_)))
 go_ret
 exact ⟨rfl,bi⟩
theorem jgd {g:Int} (hg:sgn x.num=g) (hx:Dz k x) (hk:0 < k) (hk2:k≤50000):Calls Tryz.prog 64 #[bs (tq x)] w fun e w'=>e= .returned (.int .i64 g)∧Below w.heap.size w w':=
 jd4 (by rw [jt5,hg]) (by have:=jgj hx hk hk2;omega)
theorem jcq {g:Int} (hg:Rq.cmpQ x y=g) (hx:Dz k x) (hy:Dz m y) (hk:0 < k) (hm:0 < m) (hk2:k≤9000) (hm2:m≤9000):Calls Tryz.prog 22 #[bs (tq x),bs (tq y)] w fun e w'=>e= .returned (.int .i64 g)∧Below w.heap.size w w':=by
 have HS:=qh (fun W=>jca (w:=W) hx hy hk hm hk2 hm2)
 have HG:=qh (fun W=>jgd (w:=W) (x:=x - y) (g:=g) (by rw [jro,hg]) (hx.sub hy) (by omega) (by omega))
 unfold QP at HS
 obtain ⟨X,hX⟩:∃m,tq x=m:=⟨_,rfl⟩
 obtain ⟨Y,hY⟩:∃m,tq y=m:=⟨_,rfl⟩
 obtain ⟨r,hr⟩:∃r,tq (x - y)=r:=⟨_,rfl⟩
 rw [hX,hY,hr] at HS
 rw [hr] at HG
 rw [hX,hY]
 clear hg hx hy hk hm hk2 hm2 hX hY hr
 go_enter Tryz.func22,Tryz.ntmps22
 go_wp2_with (first|(go_at_call 21;(with_reducible refine mo0 (HS.out _) fun w1 hb1 hc1 hf1 _=> ?_))|(go_at_call 64;(with_reducible refine mo0 (HG.out _) fun w2 hb2 hc2 hf2 _=> ?_)))
 go_ret
 exact ⟨rfl,bi⟩
theorem jqr (x:Rat):sl (tq x)=(tq x).length↔x.den=1:=by
 have h1:=jlc x
 have h2:=jer x
 have key:sl (uq x)=(uq x).length↔x.den=1:=by
  rw [h1,h2]
  by_cases h:x.den=1
  ·rw [if_pos h];simp [h]
  ·rw [if_neg h];constructor
   ·intro e;omega
   ·intro e;exact absurd e h
 rw [jdo]
 split
 ·rw [show sl (45::uq x)=sl (uq x)+1 by rw [sl];rfl,List.length_cons,←key];omega
 ·exact key
theorem je6 {b:Bool} (hb:decide (x.den=1)=b) (hx:Dz k x) (hk:0 < k) (hk2:k≤50000):Calls Tryz.prog 87 #[bs (tq x)] w fun e w'=>e= .returned (.bool b)∧Below w.heap.size w w':=by
 have hL:=jgj hx hk hk2
 have HS:=qh (fun W=>jaS (w:=W) (l:=tq x) (by omega))
 have q1:((sl (tq x):Int)==((tq x).length:Int))=b:=by
  rw [←hb]
  by_cases h:x.den=1
  ·rw [decide_eq_true h,beq_iff_eq,(jqr x).2 h]
  ·rw [decide_eq_false h,beq_eq_false_iff_ne]
   intro e;exact h ((jqr x).1 (by omega))
 have q2:(sl (tq x)==(tq x).length)=b:=by
  rw [←hb]
  by_cases h:x.den=1
  ·rw [decide_eq_true h,beq_iff_eq,(jqr x).2 h]
  ·rw [decide_eq_false h,beq_eq_false_iff_ne]
   intro e;exact h ((jqr x).1 e)
 obtain ⟨X,hX⟩:∃X,tq x=X:=⟨_,rfl⟩
 rw [hX] at HS q1 q2 ⊢
 obtain ⟨j,hj⟩:∃j,sl X=j:=⟨_,rfl⟩
 rw [hj] at HS q1 q2
 clear hb hx hk hk2 hL hX hj
 go_enter Tryz.func87,Tryz.ntmps87
 go_wp2_with (go_at_call 84;(with_reducible refine mo0 (HS.out _) fun w1 hb1 hc1 hf1 _=> ?_))
 go_ret
 exact ⟨by first|rfl|rw [q1]|rw [q2],bi⟩
theorem jfm (x:Rat):(tq x==[48])=decide (x=0):=by
 by_cases h:x=0
 ·subst h;rw [jeS];rfl
 ·rw [decide_eq_false h,beq_eq_false_iff_ne]
  intro e
  exact h (jii (e.trans jeS.symm))
theorem jgc {b:Bool} (hb:decide (x=0)=b):Calls Tryz.prog 46 #[bs (tq x)] w fun e w'=>e= .returned (.bool b)∧Below w.heap.size w w':=by
 rw [←jfm] at hb
 obtain ⟨X,hX⟩:∃X,tq x=X:=⟨_,rfl⟩
 rw [hX] at hb ⊢
 clear hX
 go_enter Tryz.func46,Tryz.ntmps46
 go_wp2
 go_ret
 exact ⟨by first|rfl|rw [hb]|simp [hb],bi⟩
theorem jck (hx:Dz k x) (hk:0 < k) (hk2:k≤9000):Calls Tryz.prog 44 #[bs (tq x)] w (QP ((x.floor:Int):Rat) w):=by
 unfold QP
 by_cases h:x.den=1
 ·have e:((x.floor:Int):Rat)=x:=by
   rw [Rat.floor_def,h]
   rw [show ((1:Nat):Int)=1 from rfl,Int.ediv_one]
   exact Rat.ext rfl h.symm
  rw [e]
  have HW:=qh (fun W=>je6 (w:=W) (b:=true) (by rw [decide_eq_true h]) hx hk (by omega))
  obtain ⟨X,hX⟩:∃X,tq x=X:=⟨_,rfl⟩
  rw [hX] at HW ⊢
  clear hx hk hk2 h e hX
  go_enter Tryz.func44,Tryz.ntmps44
  go_wp2_with (go_at_call 87;(with_reducible refine mo0 (HW.out _) fun w1 hb1 hc1 hf1 _=> ?_))
  go_ret
  exact ⟨rfl,bi⟩
 ·rw [jkC,Rat.floor_def]
  have HW:=qh (fun W=>je6 (w:=W) (b:=false) (by rw [decide_eq_false h]) hx hk (by omega))
  obtain ⟨s1,hs1⟩:∃b,decide (x.num < 0)=b:=⟨_,rfl⟩
  have HP:=qh (fun W=>(je5 (w:=W) hx hk (by omega)).mono fun e w' h=>h.at hs1 (show decide ((x.den:Int) < 0)=false by rw [decide_eq_false_iff_not];omega))
  obtain ⟨z,hz⟩:∃z,x.num / (x.den:Int)=z:=⟨_,rfl⟩
  have HF:=qh (fun W (u v:Value) (h:Rz W u x.num (k+3)) (h':Rz W v (x.den:Int) (k+3))=>hz ▸ jnX h h' (by omega) (by have:=x.den_pos;omega))
  have HT:=qh (fun W (u:Value) (h:Rz W u z (k+3+1))=>jbD h (by omega))
  obtain ⟨X,hX⟩:∃X,tq x=X:=⟨_,rfl⟩
  rw [hX] at HW HP ⊢
  rw [hz]
  obtain ⟨R,hR⟩:∃R,zt z=R:=⟨_,rfl⟩
  rw [hR] at HT ⊢
  clear hx hk hk2 h hs1 hX hR hz
  go_enter Tryz.func44,Tryz.ntmps44
  go_wp2_with first|(go_at_call 87;(with_reducible refine mo0 (HW.out _) fun w1 hb1 hc1 hf1 _=> ?_))|(go_at_call 73;(with_reducible refine (HP.out _).mono ?_);rintro e3 w3 ⟨A,i,c,B,j,d,rfl,h3,hb3⟩;have _:=bm hb3;have H3:=qh h3;clear h3)|(go_at_call 101;(with_reducible refine (HF.out _ _ _ (H3.out.1.below bi) (H3.out.2.below bi)).mono ?_);rintro e4 w4 ⟨r4,rfl,x4,hb4⟩;have _:=bm hb4;have H4:=qh x4;clear x4)|(go_at_call 66;(with_reducible refine mz (HT.out _ _ H4.out) fun w5 hb5 _=> ?_))
  go_ret
  exact ⟨rfl,bi⟩
theorem jff {n:Nat} (hn:n < 9223372036854775808):Calls Tryz.prog 15 #[.int .i64 (n:Int)] w (QP (((n:Int):Int):Rat) w):=by
 unfold QP
 rw [jkC]
 have HW:=qh (fun W=>jhC (w:=W) hn)
 have HT:=qh (fun W (u:Value) (h:Rz W u (n:Int) 3)=>jbD h (by omega))
 obtain ⟨R,hR⟩:∃R,zt (n:Int)=R:=⟨_,rfl⟩
 rw [hR] at HT ⊢
 clear hn hR
 go_enter Tryz.func15,Tryz.ntmps15
 go_wp2_with first|(go_at_call 67;(with_reducible refine (HW.out _).mono ?_);rintro e4 w4 ⟨r4,rfl,x4,hb4⟩;have _:=bm hb4;have H4:=qh x4;clear x4)|(go_at_call 66;(with_reducible refine mz (HT.out _ _ H4.out) fun w5 hb5 _=> ?_))
 go_ret
 exact ⟨rfl,bi⟩
theorem jku (hx:Dz k x) (hk:0 < k) (hk2:k≤9000):Calls Tryz.prog 88 #[bs (tq x)] w (QP (x / 2) w):=by
 have HM:=qh (fun W=>(show Calls Tryz.prog 20 #[bs (tq x),bs [49,47,50]] W (QP (x / 2) W) from by
  have h2:tq (1 / 2:Rat)=[49,47,50]:=by decide+kernel
  have:=jbg (w:=W) (y:=1 / 2) (m:=1) hx ⟨by decide+kernel,by decide+kernel⟩ hk (by omega) hk2 (by omega)
  rw [h2] at this
  rwa [show x*(1 / 2:Rat)=x / 2 by rw [Rat.div_def,Rat.div_def,Rat.one_mul]] at this))
 unfold QP at HM ⊢
 obtain ⟨X,hX⟩:∃X,tq x=X:=⟨_,rfl⟩
 obtain ⟨R,hR⟩:∃X,tq (x / 2)=X:=⟨_,rfl⟩
 rw [hX,hR] at HM
 rw [hX,hR]
 clear hx hk hk2 hX hR
 go_enter Tryz.func88,Tryz.ntmps88
 go_wp2_with (go_at_call 20;(with_reducible refine mo0 (HM.out _) fun w1 hb1 hc1 hf1 _=> ?_))
 go_ret
 exact ⟨rfl,bi⟩
def jo5 (x y:Rat):Rat:=if y < x then y else x
def jnv (x y:Rat):Rat:=if x < y then y else x
theorem jmF (hx:Dz k x) (hy:Dz m y) (hk:0 < k) (hm:0 < m) (hk2:k≤9000) (hm2:m≤9000):Calls Tryz.prog 96 #[bs (tq x),bs (tq y)] w (QP (jo5 x y) w):=by
 obtain ⟨g,hg⟩:∃g,Rq.cmpQ x y=g:=⟨_,rfl⟩
 have HC:=qh (fun W=>jcq (w:=W) hg hx hy hk hm hk2 hm2)
 have hm:jo5 x y=if decide (g≤0)=true then x else y:=by
  unfold jo5
  by_cases h:y < x
  ·rw [if_pos h,if_neg]
   have:=Rq.cmp_pos.2 h
   rw [decide_eq_true_iff];omega
  ·rw [if_neg h,if_pos]
   rw [decide_eq_true_iff]
   have:¬0 < Rq.cmpQ x y:=fun e=>h (Rq.cmp_pos.1 e)
   omega
 rw [hm]
 obtain ⟨b,hb⟩:∃b,decide (g≤0)=b:=⟨_,rfl⟩
 rw [hb]
 unfold QP
 obtain ⟨X,hX⟩:∃X,tq x=X:=⟨_,rfl⟩
 obtain ⟨Y,hY⟩:∃X,tq y=X:=⟨_,rfl⟩
 rw [apply_ite tq]
 rw [hX,hY] at HC ⊢
 clear hx hy hk hk2 hm2 hm hX hY hg
 go_enter Tryz.func96,Tryz.ntmps96
 cases b
 ·go_wp2_with (go_at_call 22;(with_reducible refine mo0 (HC.out _) fun w1 hb1 hc1 hf1 _=> ?_))
  go_ret
  exact ⟨rfl,bi⟩
 ·go_wp2_with (go_at_call 22;(with_reducible refine mo0 (HC.out _) fun w1 hb1 hc1 hf1 _=> ?_))
  go_ret
  exact ⟨rfl,bi⟩
theorem jmo (hx:Dz k x) (hy:Dz m y) (hk:0 < k) (hm:0 < m) (hk2:k≤9000) (hm2:m≤9000):Calls Tryz.prog 97 #[bs (tq x),bs (tq y)] w (QP (jnv x y) w):=by
 obtain ⟨g,hg⟩:∃g,Rq.cmpQ x y=g:=⟨_,rfl⟩
 have HC:=qh (fun W=>jcq (w:=W) hg hx hy hk hm hk2 hm2)
 have hm:jnv x y=if decide (0≤g)=true then x else y:=by
  unfold jnv
  by_cases h:x < y
  ·rw [if_pos h,if_neg]
   have:=Rq.cmp_neg.2 h
   rw [decide_eq_true_iff];omega
  ·rw [if_neg h,if_pos]
   rw [decide_eq_true_iff]
   have:¬Rq.cmpQ x y < 0:=fun e=>h (Rq.cmp_neg.1 e)
   omega
 rw [hm]
 obtain ⟨b,hb⟩:∃b,decide (0≤g)=b:=⟨_,rfl⟩
 rw [hb]
 unfold QP
 obtain ⟨X,hX⟩:∃X,tq x=X:=⟨_,rfl⟩
 obtain ⟨Y,hY⟩:∃X,tq y=X:=⟨_,rfl⟩
 rw [apply_ite tq]
 rw [hX,hY] at HC ⊢
 clear hx hy hk hk2 hm2 hm hX hY hg
 go_enter Tryz.func97,Tryz.ntmps97
 cases b
 ·go_wp2_with (go_at_call 22;(with_reducible refine mo0 (HC.out _) fun w1 hb1 hc1 hf1 _=> ?_))
  go_ret
  exact ⟨rfl,bi⟩
 ·go_wp2_with (go_at_call 22;(with_reducible refine mo0 (HC.out _) fun w1 hb1 hc1 hf1 _=> ?_))
  go_ret
  exact ⟨rfl,bi⟩
theorem jke {g:Int} (hg:jba x=g) (hx:Dz k x) (hk:0 < k) (hk2:k≤50000):Calls Tryz.prog 65 #[bs (tq x)] w fun e w'=>e= .returned (.int .i64 g)∧Below w.heap.size w w':=by
 have hL:=jgj hx hk hk2
 obtain ⟨a,ha⟩:∃a,jpS (tq x)=a:=⟨_,rfl⟩
 have hal:a.length≤100002:=by rw [←ha];unfold jpS;rw [List.length_take];omega
 have hs:joX a=Lib.decDigits x.num.natAbs:=by rw [←ha];exact jjY x
 have HN:=qh (fun W=>jlW (w:=W) ha (by omega))
 have HA:=qh (fun W=>jnb (w:=W) hs (by omega))
 have HD:=qh (fun W=>jns (w:=W) (jqy x) (by omega))
 have hg2:(if (decide (600 < (Lib.decDigits x.num.natAbs).length) || decide (600 < (Lib.decDigits x.den).length))=true then (4:Int) else 0)=g:=by
  rw [←hg];unfold jba jcz lng;rfl
 obtain ⟨X,hX⟩:∃X,tq x=X:=⟨_,rfl⟩
 obtain ⟨s,hs2⟩:∃s,Lib.decDigits x.num.natAbs=s:=⟨_,rfl⟩
 obtain ⟨t,ht2⟩:∃s,Lib.decDigits x.den=s:=⟨_,rfl⟩
 rw [hX] at HN HD ⊢
 rw [hs2] at HA hg2
 rw [ht2] at HD hg2
 obtain ⟨b1,hb1⟩:∃b,decide (600 < s.length)=b:=⟨_,rfl⟩
 obtain ⟨b2,hb2⟩:∃b,decide (600 < t.length)=b:=⟨_,rfl⟩
 rw [hb1,hb2] at hg2
 have q1:decide ((600:Int) < (s.length:Int))=b1:=by rw [←hb1];exact decide_eq_decide.2 (by omega)
 have q2:decide ((600:Int) < (t.length:Int))=b2:=by rw [←hb2];exact decide_eq_decide.2 (by omega)
 clear hg hx hk hk2 hL ha hal hs hX hs2 ht2 hb1 hb2
 cases b1 <;> cases b2 <;> (simp only [Bool.or_true,Bool.or_false,Bool.true_or,if_pos,Bool.false_eq_true,if_false] at hg2;subst hg2)
 all_goals
  go_enter Tryz.func65,Tryz.ntmps65
  go_wp2_with (first|(go_at_call 69;(with_reducible refine mo0 (HN.out _) fun w2 hb2 hc2 hf2 _=> ?_))|(go_at_call 68;(with_reducible refine mo0 (HA.out _) fun w3 hb3 hc3 hf3 _=> ?_))|(go_at_call 70;(with_reducible refine mo0 (HD.out _) fun w4 hb4 hc4 hf4 _=> ?_)))
  go_ret
  exact ⟨rfl,bi⟩
end

def jju (l:List UInt8) (y:Rat):Int:=
 if y - (y.floor:Rat)=0 then y.floor
 else y.floor+(if upK l (Rq.cmpQ (y - (y.floor:Rat)) (1/2)) (decide (y.floor % 2≠0)) then 1 else 0)
theorem mul_div_cancel {x s:Rat} (h:0 < s):x / s*s=x:=by
 rw [Rat.div_def,Rat.mul_assoc,Rat.inv_mul_cancel _ (by grind),Rat.mul_one]
theorem jfT {l:List UInt8} {x s:Rat} (h:0 < s):rnd l x s=((jju l (x / s):Int):Rat)*s:=by
 unfold rnd jju
 split
 ·rename_i e
  have:x / s=((x / s).floor:Rat):=by grind
  rw [←this,mul_div_cancel h]
 ·rfl
theorem jsB (y:Rat):(y.floor:Rat)≤y:=Rat.floor_le y
theorem jtI (y:Rat):y < (y.floor:Rat)+1:=by
 have:=Rat.lt_floor_add_one y
 have e:((y.floor+1:Int):Rat)=(y.floor:Rat)+1:=by push_cast;rfl
 rwa [e] at this
theorem jkH (l:List UInt8) (y:Rat):(jju l y=y.floor∧(y=(y.floor:Rat)∨upK l (Rq.cmpQ (y - (y.floor:Rat)) (1/2)) (decide (y.floor % 2≠0))=false))∨(jju l y=y.floor+1∧(y.floor:Rat) < y∧upK l (Rq.cmpQ (y - (y.floor:Rat)) (1/2)) (decide (y.floor % 2≠0))=true):=by
 have h0:=jsB y
 unfold jju
 by_cases h:y - (y.floor:Rat)=0
 ·rw [if_pos h];left;exact ⟨rfl, .inl (by grind)⟩
 ·rw [if_neg h]
  by_cases h1:upK l (Rq.cmpQ (y - (y.floor:Rat)) (1/2)) (decide (y.floor % 2≠0))=true
  ·right;rw [if_pos h1];exact ⟨rfl,by grind,h1⟩
  ·left;rw [if_neg h1];exact ⟨by simp, .inr (by simpa using h1)⟩
theorem jdN (z:Int):((z+1:Int):Rat)=(z:Rat)+1:=by push_cast;rfl
section
variable {w:World} {x s:Rat} {kind step a:List UInt8}
theorem jei {kind step:List UInt8} (h:jay kind step=0):(jaC kind).isSome=true∧IsNum step (numQ step)∧0 < numQ step:=by
 unfold jay at h
 cases hk:(jaC kind).isSome with
 | false=>rw [hk,if_pos rfl] at h;cases h
 | true=>
   rw [hk,if_neg (by decide)] at h
   by_cases h1:chk step=0
   ·rw [if_neg (by simpa using h1)] at h
    by_cases h2:numQ step≤0
    ·rw [if_pos h2] at h;cases h
    ·exact ⟨rfl,jaB h1,Rat.not_le.1 h2⟩
   ·rw [if_pos h1] at h;exact absurd h h1
theorem jkO {k:Int} (hE:Env w) (hl:a.length < 4294967281) (hk:chk a=k) (h0:k≠0):Calls Tryz.prog 23 #[bs a,rv kind step] w fun e w'=>e= .returned (.tuple #[bs [], .int .i64 k])∧Below w.heap.size w w':=by
 have HE:=qh hE
 have HL:=qh hl
 have HK:=qh hk
 have q1:(k != 0)=true:=by rw [bne_iff_ne];exact h0
 clear hE hl hk h0
 go_enter Tryz.func23,Tryz.ntmps23
 go_wp2_with (go_at_call 77;(with_reducible refine mo0 (jaz HK.out (HE.out.below bi) HL.out) fun w1 hb1 hc1 hf1 _=> ?_))
 go_ret2
 exact ⟨rfl,bi⟩
theorem jkS {k:Int} (hE:Env w) (hl:a.length < 4294967281) (hl2:step.length < 4294967281) (ha:chk a=0) (hk:jay kind step=k) (h0:k≠0):Calls Tryz.prog 23 #[bs a,rv kind step] w fun e w'=>e= .returned (.tuple #[bs [], .int .i64 k])∧Below w.heap.size w w':=by
 have HE:=qh hE
 have HL:=qh hl
 have HL2:=qh hl2
 have HA:=qh ha
 have HK:=qh hk
 have q1:(k != 0)=true:=by rw [bne_iff_ne];exact h0
 clear hE hl hl2 hk h0 ha
 go_enter Tryz.func23,Tryz.ntmps23
 go_wp2_with (first
  | (go_at_call 77;(with_reducible refine mo1 w (jaz HA.out (HE.out.below bi) HL.out) (by go_size) fun w1 hb1 hc1 hf1 z1_0 _=> ?_))
  | (go_at_call 26;(with_reducible refine mo0 (jbT HK.out (HE.out.below bi) HL2.out) fun w2 hb2 hc2 hf2 _=> ?_)))
 go_ret2
 exact ⟨rfl,bi⟩
end

theorem Dz.of {x:Rat} {k:Nat} (h1:(Lib.decDigits x.num.natAbs).length≤k) (h2:(Lib.decDigits x.den).length≤k):Dz k x:=
 ⟨Nat.lt_of_lt_of_le (jdB _) (jbO h1),Nat.lt_of_lt_of_le (jdB _) (jbO h2)⟩
theorem IsNum.dz {l:List UInt8} {x:Rat} (h:IsNum l x):Dz 600 x:=Dz.of h.num h.den
section
variable {w:World} {kind step:List UInt8}
theorem jfc {k:Int} (hk:jay kind step=k) (hl:step.length≤15000):Calls Tryz.prog 25 #[rv kind step] w fun e w'=>e= .returned (.int .i64 k)∧Below w.heap.size w w':=by
 have HC:=qh (fun W=>jaH (w:=W) (l:=step) rfl hl)
 unfold jay at hk
 clear hl
 by_cases h1:kind=jdf
 ·subst h1
  rw [if_neg (by decide)] at hk
  have r0:jdf=[100,111,119,110]:=rfl
  rw [r0]
  clear r0
  by_cases hz:chk step=0
  ·have hx:=jaB hz
   have hstep:=hx.eq
   obtain ⟨s,hs⟩:∃s,sgn (numQ step).num=s:=⟨_,rfl⟩
   have HS:=qh (fun W=>(show Calls Tryz.prog 64 #[bs step] W fun e w'=>e= .returned (.int .i64 s)∧Below W.heap.size W w' from by
    have:=jgd (w:=W) hs hx.dz (by omega) (by omega)
    rwa [←hstep] at this))
   have hsle:(s≤0)↔numQ step≤0:=by
    rw [←hs]
    constructor
    ·intro h
     have:¬0 < numQ step:=fun h2=>by
      have:=jfS h2
      unfold sgn at h;rw [if_neg (by omega),if_pos (by omega)] at h;omega
     grind
    ·intro h
     have:(numQ step).num≤0:=by
      rcases Int.lt_or_le 0 (numQ step).num with k|k
      ·exfalso
       have:0 < numQ step:=by rw [Rat.lt_iff];simpa using k
       grind
      ·exact k
     unfold sgn;split <;> (try split) <;> omega
   rw [hz] at HC hk
   rw [if_neg (by decide)] at hk
   by_cases h0:s≤0
   ·rw [if_pos (hsle.1 h0)] at hk
    subst hk
    have q1:decide (s≤0)=true:=by simpa using h0
    clear hz hx hstep hs hsle h0
    go_enter Tryz.func25,Tryz.ntmps25
    go_wp2_with first|(go_at_call 27;(with_reducible refine mo1 w (HC.out _) (by go_size) fun w1 hb1 hc1 hf1 z1_0 _=> ?_))|(go_at_call 64;(with_reducible refine mo1 w (HS.out _) (by go_size) fun w2 hb2 hc2 hf2 z2_0 _=> ?_))
    go_ret
    exact ⟨rfl,bi⟩
   ·rw [if_neg (fun h=>h0 (hsle.2 h))] at hk
    subst hk
    have q1:decide (s≤0)=false:=by simpa using h0
    clear hz hx hstep hs hsle h0
    go_enter Tryz.func25,Tryz.ntmps25
    go_wp2_with first|(go_at_call 27;(with_reducible refine mo1 w (HC.out _) (by go_size) fun w1 hb1 hc1 hf1 z1_0 _=> ?_))|(go_at_call 64;(with_reducible refine mo1 w (HS.out _) (by go_size) fun w2 hb2 hc2 hf2 z2_0 _=> ?_))
    go_ret
    exact ⟨rfl,bi⟩
  ·rw [if_pos hz] at hk
   obtain ⟨c,hc⟩:∃c,chk step=c:=⟨_,rfl⟩
   rw [hc] at HC hk hz
   subst hk
   have q1:(c==0)=false:=by rw [beq_eq_false_iff_ne];exact hz
   clear hz hc
   go_enter Tryz.func25,Tryz.ntmps25
   go_wp2_with first|(go_at_call 27;(with_reducible refine mo1 w (HC.out _) (by go_size) fun w1 hb1 hc1 hf1 z1_0 _=> ?_))
   go_ret
   exact ⟨rfl,bi⟩
 ·by_cases h2:kind=kUp
  ·subst h2
   rw [if_neg (by decide)] at hk
   have r0:kUp=[117,112]:=rfl
   rw [r0]
   clear r0 h1
   by_cases hz:chk step=0
   ·have hx:=jaB hz
    have hstep:=hx.eq
    obtain ⟨s,hs⟩:∃s,sgn (numQ step).num=s:=⟨_,rfl⟩
    have HS:=qh (fun W=>(show Calls Tryz.prog 64 #[bs step] W fun e w'=>e= .returned (.int .i64 s)∧Below W.heap.size W w' from by
     have:=jgd (w:=W) hs hx.dz (by omega) (by omega)
     rwa [←hstep] at this))
    have hsle:(s≤0)↔numQ step≤0:=by
     rw [←hs]
     constructor
     ·intro h
      have:¬0 < numQ step:=fun h2=>by
       have:=jfS h2
       unfold sgn at h;rw [if_neg (by omega),if_pos (by omega)] at h;omega
      grind
     ·intro h
      have:(numQ step).num≤0:=by
       rcases Int.lt_or_le 0 (numQ step).num with k|k
       ·exfalso
        have:0 < numQ step:=by rw [Rat.lt_iff];simpa using k
        grind
       ·exact k
      unfold sgn;split <;> (try split) <;> omega
    rw [hz] at HC hk
    rw [if_neg (by decide)] at hk
    by_cases h0:s≤0
    ·rw [if_pos (hsle.1 h0)] at hk
     subst hk
     have q1:decide (s≤0)=true:=by simpa using h0
     clear hz hx hstep hs hsle h0
     go_enter Tryz.func25,Tryz.ntmps25
     go_wp2_with first|(go_at_call 27;(with_reducible refine mo1 w (HC.out _) (by go_size) fun w1 hb1 hc1 hf1 z1_0 _=> ?_))|(go_at_call 64;(with_reducible refine mo1 w (HS.out _) (by go_size) fun w2 hb2 hc2 hf2 z2_0 _=> ?_))
     go_ret
     exact ⟨rfl,bi⟩
    ·rw [if_neg (fun h=>h0 (hsle.2 h))] at hk
     subst hk
     have q1:decide (s≤0)=false:=by simpa using h0
     clear hz hx hstep hs hsle h0
     go_enter Tryz.func25,Tryz.ntmps25
     go_wp2_with first|(go_at_call 27;(with_reducible refine mo1 w (HC.out _) (by go_size) fun w1 hb1 hc1 hf1 z1_0 _=> ?_))|(go_at_call 64;(with_reducible refine mo1 w (HS.out _) (by go_size) fun w2 hb2 hc2 hf2 z2_0 _=> ?_))
     go_ret
     exact ⟨rfl,bi⟩
   ·rw [if_pos hz] at hk
    obtain ⟨c,hc⟩:∃c,chk step=c:=⟨_,rfl⟩
    rw [hc] at HC hk hz
    subst hk
    have q1:(c==0)=false:=by rw [beq_eq_false_iff_ne];exact hz
    clear hz hc
    go_enter Tryz.func25,Tryz.ntmps25
    go_wp2_with first|(go_at_call 27;(with_reducible refine mo1 w (HC.out _) (by go_size) fun w1 hb1 hc1 hf1 z1_0 _=> ?_))
    go_ret
    exact ⟨rfl,bi⟩
  ·by_cases h3:kind=jb8
   ·subst h3
    rw [if_neg (by decide)] at hk
    have r0:jb8=[104,97,108,102,45,117,112]:=rfl
    rw [r0]
    clear r0 h1 h2
    by_cases hz:chk step=0
    ·have hx:=jaB hz
     have hstep:=hx.eq
     obtain ⟨s,hs⟩:∃s,sgn (numQ step).num=s:=⟨_,rfl⟩
     have HS:=qh (fun W=>(show Calls Tryz.prog 64 #[bs step] W fun e w'=>e= .returned (.int .i64 s)∧Below W.heap.size W w' from by
      have:=jgd (w:=W) hs hx.dz (by omega) (by omega)
      rwa [←hstep] at this))
     have hsle:(s≤0)↔numQ step≤0:=by
      rw [←hs]
      constructor
      ·intro h
       have:¬0 < numQ step:=fun h2=>by
        have:=jfS h2
        unfold sgn at h;rw [if_neg (by omega),if_pos (by omega)] at h;omega
       grind
      ·intro h
       have:(numQ step).num≤0:=by
        rcases Int.lt_or_le 0 (numQ step).num with k|k
        ·exfalso
         have:0 < numQ step:=by rw [Rat.lt_iff];simpa using k
         grind
        ·exact k
       unfold sgn;split <;> (try split) <;> omega
     rw [hz] at HC hk
     rw [if_neg (by decide)] at hk
     by_cases h0:s≤0
     ·rw [if_pos (hsle.1 h0)] at hk
      subst hk
      have q1:decide (s≤0)=true:=by simpa using h0
      clear hz hx hstep hs hsle h0
      go_enter Tryz.func25,Tryz.ntmps25
      go_wp2_with first|(go_at_call 27;(with_reducible refine mo1 w (HC.out _) (by go_size) fun w1 hb1 hc1 hf1 z1_0 _=> ?_))|(go_at_call 64;(with_reducible refine mo1 w (HS.out _) (by go_size) fun w2 hb2 hc2 hf2 z2_0 _=> ?_))
      go_ret
      exact ⟨rfl,bi⟩
     ·rw [if_neg (fun h=>h0 (hsle.2 h))] at hk
      subst hk
      have q1:decide (s≤0)=false:=by simpa using h0
      clear hz hx hstep hs hsle h0
      go_enter Tryz.func25,Tryz.ntmps25
      go_wp2_with first|(go_at_call 27;(with_reducible refine mo1 w (HC.out _) (by go_size) fun w1 hb1 hc1 hf1 z1_0 _=> ?_))|(go_at_call 64;(with_reducible refine mo1 w (HS.out _) (by go_size) fun w2 hb2 hc2 hf2 z2_0 _=> ?_))
      go_ret
      exact ⟨rfl,bi⟩
    ·rw [if_pos hz] at hk
     obtain ⟨c,hc⟩:∃c,chk step=c:=⟨_,rfl⟩
     rw [hc] at HC hk hz
     subst hk
     have q1:(c==0)=false:=by rw [beq_eq_false_iff_ne];exact hz
     clear hz hc
     go_enter Tryz.func25,Tryz.ntmps25
     go_wp2_with first|(go_at_call 27;(with_reducible refine mo1 w (HC.out _) (by go_size) fun w1 hb1 hc1 hf1 z1_0 _=> ?_))
     go_ret
     exact ⟨rfl,bi⟩
   ·by_cases h4:kind=jaF
    ·subst h4
     rw [if_neg (by decide)] at hk
     have r0:jaF=[104,97,108,102,45,101,118,101,110]:=rfl
     rw [r0]
     clear r0 h1 h2 h3
     by_cases hz:chk step=0
     ·have hx:=jaB hz
      have hstep:=hx.eq
      obtain ⟨s,hs⟩:∃s,sgn (numQ step).num=s:=⟨_,rfl⟩
      have HS:=qh (fun W=>(show Calls Tryz.prog 64 #[bs step] W fun e w'=>e= .returned (.int .i64 s)∧Below W.heap.size W w' from by
       have:=jgd (w:=W) hs hx.dz (by omega) (by omega)
       rwa [←hstep] at this))
      have hsle:(s≤0)↔numQ step≤0:=by
       rw [←hs]
       constructor
       ·intro h
        have:¬0 < numQ step:=fun h2=>by
         have:=jfS h2
         unfold sgn at h;rw [if_neg (by omega),if_pos (by omega)] at h;omega
        grind
       ·intro h
        have:(numQ step).num≤0:=by
         rcases Int.lt_or_le 0 (numQ step).num with k|k
         ·exfalso
          have:0 < numQ step:=by rw [Rat.lt_iff];simpa using k
          grind
         ·exact k
        unfold sgn;split <;> (try split) <;> omega
      rw [hz] at HC hk
      rw [if_neg (by decide)] at hk
      by_cases h0:s≤0
      ·rw [if_pos (hsle.1 h0)] at hk
       subst hk
       have q1:decide (s≤0)=true:=by simpa using h0
       clear hz hx hstep hs hsle h0
       go_enter Tryz.func25,Tryz.ntmps25
       go_wp2_with first|(go_at_call 27;(with_reducible refine mo1 w (HC.out _) (by go_size) fun w1 hb1 hc1 hf1 z1_0 _=> ?_))|(go_at_call 64;(with_reducible refine mo1 w (HS.out _) (by go_size) fun w2 hb2 hc2 hf2 z2_0 _=> ?_))
       go_ret
       exact ⟨rfl,bi⟩
      ·rw [if_neg (fun h=>h0 (hsle.2 h))] at hk
       subst hk
       have q1:decide (s≤0)=false:=by simpa using h0
       clear hz hx hstep hs hsle h0
       go_enter Tryz.func25,Tryz.ntmps25
       go_wp2_with first|(go_at_call 27;(with_reducible refine mo1 w (HC.out _) (by go_size) fun w1 hb1 hc1 hf1 z1_0 _=> ?_))|(go_at_call 64;(with_reducible refine mo1 w (HS.out _) (by go_size) fun w2 hb2 hc2 hf2 z2_0 _=> ?_))
       go_ret
       exact ⟨rfl,bi⟩
     ·rw [if_pos hz] at hk
      obtain ⟨c,hc⟩:∃c,chk step=c:=⟨_,rfl⟩
      rw [hc] at HC hk hz
      subst hk
      have q1:(c==0)=false:=by rw [beq_eq_false_iff_ne];exact hz
      clear hz hc
      go_enter Tryz.func25,Tryz.ntmps25
      go_wp2_with first|(go_at_call 27;(with_reducible refine mo1 w (HC.out _) (by go_size) fun w1 hb1 hc1 hf1 z1_0 _=> ?_))
      go_ret
      exact ⟨rfl,bi⟩
    ·have hn:(jaC kind).isSome=false:=by unfold jaC;rw [if_neg h1,if_neg h2,if_neg h3,if_neg h4];rfl
     rw [hn,if_pos rfl] at hk
     subst hk
     have r1:(kind==[100,111,119,110])=false:=by rw [beq_eq_false_iff_ne];exact h1
     have r2:(kind==[117,112])=false:=by rw [beq_eq_false_iff_ne];exact h2
     have r3:(kind==[104,97,108,102,45,117,112])=false:=by rw [beq_eq_false_iff_ne];exact h3
     have r4:(kind==[104,97,108,102,45,101,118,101,110])=false:=by rw [beq_eq_false_iff_ne];exact h4
     clear h1 h2 h3 h4 hn HC
     go_enter Tryz.func25,Tryz.ntmps25
     go_wp2
     go_ret
     exact ⟨rfl,bi⟩
end

theorem Dz.lt {k:Nat} {x:Rat} (h:Dz k x):x < (((10^k:Nat):Int):Rat):=by
 rw [Rat.lt_iff,Rat.num_intCast,Rat.den_intCast]
 have h1:=h.num
 have h2:=x.den_pos
 have h3:10^k≤10^k*x.den:=Nat.le_mul_of_pos_right _ h2
 have h4:(((10^k:Nat):Int))*(x.den:Int)=((10^k*x.den:Nat):Int):=by rw [Int.natCast_mul]
 rw [h4]
 omega
theorem Dz.gt {k:Nat} {x:Rat} (h:Dz k x): -(((10^k:Nat):Int):Rat) < x:=by
 have:=h.neg.lt
 grind
theorem jqT {x:Rat} {N:Int} (h:x < (N:Rat)):x.num < N*(x.den:Int):=by
 have:=(Rat.lt_iff x (N:Rat)).1 h
 rw [Rat.num_intCast,Rat.den_intCast] at this
 omega
theorem jts {x:Rat} {N:Int} (h: -(N:Rat) < x): -(N*(x.den:Int)) < x.num:=by
 have h1: -x < (N:Rat):=by grind
 have:=jqT h1
 rw [Rat.neg_num,Rat.neg_den] at this
 omega
theorem jat {x:Rat} {k:Nat} (h:Dz k x) (hk:0 < k) (hk2:k≤600):jbl x=tq x∧jba x=0∧IsNum (tq x) x:=by
 have h1:=jbm h.num hk
 have h2:=jbm h.den hk
 have h3:jcz x=false:=by
  unfold jcz lng
  rw [Int.natAbs_natCast,decide_eq_false (by omega),decide_eq_false (by omega)];rfl
 unfold jbl jba
 rw [h3]
 exact ⟨rfl,rfl,rfl,by omega,by omega⟩
theorem jrB (l:List UInt8) (y:Rat):((jju l y:Int):Rat)≤y+1∧y - 1 < ((jju l y:Int):Rat):=by
 have h0:=jsB y
 have h1:=jtI y
 rcases jkH l y with ⟨e,_⟩|⟨e,h2,_⟩
 ·rw [e];constructor <;> grind
 ·rw [e,jdN];constructor <;> grind
theorem jp2 {l:List UInt8} {x s:Rat} (h:0 < s):rnd l x s≤x+s∧x - s≤rnd l x s:=by
 obtain ⟨h1,h2⟩:=jrB l (x / s)
 have e1:=Rat.mul_le_mul_of_nonneg_right h1 (Rat.le_of_lt h)
 have e2:=Rat.mul_le_mul_of_nonneg_right (Rat.le_of_lt h2) (Rat.le_of_lt h)
 rw [←jfT h] at e1 e2
 rw [Rat.add_mul,mul_div_cancel h,Rat.one_mul] at e1
 rw [Rat.sub_eq_add_neg,Rat.add_mul,mul_div_cancel h,Rat.neg_mul,Rat.one_mul,←Rat.sub_eq_add_neg] at e2
 exact ⟨e1,e2⟩
theorem jkJ (n:Int) (s:Rat):(((n:Int):Rat)*s).den≤s.den:=by
 rw [Rq.mul_eq,Rat.num_intCast,Rat.den_intCast]
 have:=(jfd (a:=n*s.num) (d:=s.den) s.den_pos).2
 rwa [show ((1:Nat):Int)*(s.den:Int)=(s.den:Int) by omega]
theorem jrn {l:List UInt8} {x s:Rat} (h:0 < s):(rnd l x s).den≤s.den:=by
 rw [jfT h];exact jkJ _ _
theorem jn3 {l:List UInt8} {x s:Rat} {k:Nat} (h:0 < s) (hx:Dz k x) (hs:Dz k s):Dz (2*k+1) (rnd l x s):=by
 have hd:=jrn (l:=l) (x:=x) h
 obtain ⟨h1,h2⟩:=jp2 (l:=l) (x:=x) h
 have a1:=hx.lt
 have a2:=hx.gt
 have a3:=hs.lt
 obtain ⟨z,hz⟩:∃z,rnd l x s=z:=⟨_,rfl⟩
 rw [hz] at hd h1 h2 ⊢
 have hd2:z.den < 10^k:=Nat.lt_of_le_of_lt hd hs.den
 have e2:(((2*10^k:Nat):Int):Rat)=(((10^k:Nat):Int):Rat)+(((10^k:Nat):Int):Rat):=by
  rw [←Rat.intCast_add]
  congr 1
  omega
 have b1:z < (((2*10^k:Nat):Int):Rat):=by rw [e2];grind
 have b2: -(((2*10^k:Nat):Int):Rat) < z:=by rw [e2];grind
 have c1:=jqT b1
 have c2:=jts b2
 have e3:((2*10^k:Nat):Int)*(z.den:Int)=((2*10^k*z.den:Nat):Int):=(Int.natCast_mul _ _).symm
 rw [e3] at c1 c2
 have e4:2*10^k*z.den≤2*10^k*10^k:=Nat.mul_le_mul_left _ (Nat.le_of_lt hd2)
 have e5:2*10^k*10^k≤10^(2*k+1):=by
  rw [show 2*k+1=k+k+1 by omega,Nat.pow_succ,Nat.pow_add,Nat.mul_assoc,Nat.mul_comm 2]
  exact Nat.mul_le_mul_left _ (by omega)
 refine ⟨by omega,Nat.lt_of_lt_of_le hd2 (jbO (by omega))⟩
theorem Dz.small {x:Rat} (h:Dz 18 x):SmallQ x:=by
 have h1:=h.num
 have h2:=h.den
 have e:(10:Nat)^18=1000000000000000000:=by decide
 rw [e] at h1 h2
 exact ⟨by omega,by omega,by omega⟩
theorem Fw.dz {x:Rat} {l:List UInt8} {d:Int} (h:Fw d l x):Dz d.toNat x:=Dz.of (by have:=h.num;omega) (by have:=h.den;omega)
section
variable {w:World} {a b kind step:List UInt8} {x y s:Rat}
end
end Go.Proofs.YtfoolepjkhgckaaGreatDoor
