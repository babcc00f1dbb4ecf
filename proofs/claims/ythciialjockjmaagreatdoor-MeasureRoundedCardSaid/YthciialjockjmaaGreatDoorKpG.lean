/- Parts. -/
import Derived.Test.YthciialjockjmaaGreatDoorKnG
import Derived.Test.YthciialjockjmaaGreatDoorMn
import Derived.Test.YthciialjockjmaaGreatDoorPd
set_option linter.all false
set_option maxRecDepth 100000
set_option maxHeartbeats 8000000
namespace Go.Proofs.YthciialjockjmaaGreatDoor
open Go Go.RowKit

def QP (x:Rat) (w:World) (e:Ending) (w':World):Prop:=e= .returned (bs (tq x))∧Below w.heap.size w w'
theorem Pz.at {x y:Int} {L M:Nat} {w w':World} {e:Ending} (h:Pz x y L M w e w') {s t:Bool} (hs:decide (x < 0)=s) (ht:decide (y < 0)=t):∃A n c B m d,e= .returned (.tuple #[.agg #[.bool s, .slice A n c], .agg #[.bool t, .slice B m d]])∧(Rz w' (.agg #[.bool s, .slice A n c]) x L∧Rz w' (.agg #[.bool t, .slice B m d]) y M)∧Below w.heap.size w w':=by
 obtain ⟨u,v,rfl,⟨A,n,c,ds,rfl,h1,h2⟩,⟨B,m,d,es,rfl,h3,h4⟩,hb⟩:=h
 rw [hs,ht]
 exact ⟨A,n,c,B,m,d,rfl,⟨⟨A,n,c,ds,by rw [hs],h1,h2⟩,⟨B,m,d,es,by rw [ht],h3,h4⟩⟩,hb⟩
theorem jc6 {w w':World} {T S:TypeId} {c d:Array Value} (hb:Below ((w.alloc (.cells c T)).alloc (.cells d S)).heap.size ((w.alloc (.cells c T)).alloc (.cells d S)) w'):Blk w' w.heap.size T c∧Blk w' (w.heap.size+1) S d∧Below w.heap.size w w':=by
 refine ⟨((Blk.new w T c).below (ja7 (Below.refl _ _) _)).below hb, ?_,ja3 (ja7 (ja7 (Below.refl _ _) _) _) hb⟩
 have:=(Blk.new (w.alloc (.cells c T)) S d).below hb
 simpa using this
section
variable {w:World} {x y:Rat} {k m:Nat}
theorem jnj (hx:Dz k x) (hy:Dz m y) (hk:0 < k) (hm:0 < m) (hk2:k≤9000) (hm2:m≤9000) (hsm:¬(Sm x∧Sm y)):Calls Tryz.prog 39 #[bs (tq x),bs (tq y)] w (QP (x+y) w):=by
 obtain ⟨b1,hb1⟩:∃b,sm9 x=b:=⟨_,rfl⟩
 obtain ⟨b2,hb2⟩:∃b,sm9 y=b:=⟨_,rfl⟩
 have hbb:(b1 && b2)=false:=by
  rw [←hb1,←hb2]
  by_cases h1:sm9 x=true
  ·by_cases h2:sm9 y=true
   ·exact absurd ⟨je4.1 h1,je4.1 h2⟩ hsm
   ·rw [Bool.not_eq_true] at h2;rw [h2];simp
  ·rw [Bool.not_eq_true] at h1;rw [h1];rfl
 have HQ1:=qh (fun W=>jfQ (w:=W) hb1 hx hk (by omega))
 have HQ2:=qh (fun W=>jfQ (w:=W) hb2 hy hm (by omega))
 obtain ⟨s1,hs1⟩:∃b,decide (x.num < 0)=b:=⟨_,rfl⟩
 obtain ⟨s2,hs2⟩:∃b,decide (y.num < 0)=b:=⟨_,rfl⟩
 have HP1:=qh (fun W=>(jem (w:=W) hx hk (by omega)).mono fun e w' h=>h.at hs1 (show decide ((x.den:Int) < 0)=false by rw [decide_eq_false_iff_not];omega))
 have HP2:=qh (fun W=>(jem (w:=W) hy hm (by omega)).mono fun e w' h=>h.at hs2 (show decide ((y.den:Int) < 0)=false by rw [decide_eq_false_iff_not];omega))
 obtain ⟨X,hX⟩:∃X,tq x=X:=⟨_,rfl⟩
 obtain ⟨Y,hY⟩:∃X,tq y=X:=⟨_,rfl⟩
 rw [hX] at HQ1 HP1 ⊢
 rw [hY] at HQ2 HP2 ⊢
 obtain ⟨p,hp⟩:∃b,x.num=b:=⟨_,rfl⟩
 obtain ⟨q,hq⟩:∃b,x.den=b:=⟨_,rfl⟩
 obtain ⟨r,hr⟩:∃b,y.num=b:=⟨_,rfl⟩
 obtain ⟨s,hs⟩:∃b,y.den=b:=⟨_,rfl⟩
 have hq0:0 < q:=by rw [←hq];exact x.den_pos
 have hs0:0 < s:=by rw [←hs];exact y.den_pos
 have HH:=qh (And.intro (show k+3≤9003 by omega) (And.intro (show m+3≤9003 by omega) (show (q:Int)*(s:Int)≠0 from Int.mul_ne_zero (by omega) (by omega))))
 rw [hp,hq] at HP1
 rw [hr,hs] at HP2
 obtain ⟨R,hR⟩:∃R,tq (x+y)=R:=⟨_,rfl⟩
 have HE:=qh (show tq (Rat.divInt (p*(s:Int)+r*(q:Int)) ((q:Int)*(s:Int)))=R by rw [←hR,Rq.add_eq,hp,hq,hr,hs])
 unfold QP
 rw [hR]
 clear hx hy hk hm hk2 hm2 hsm hb1 hb2 hX hY hs1 hs2 hp hq hr hs hq0 hs0 hR
 go_enter Tryz.func39,Tryz.ntmps39
 cases b1 with
 | false=>
   go_upto_region 5 with first|(go_at_call 91;(with_reducible refine (HQ1.out _).mono ?_);rintro e1 w1 ⟨n1,d1,rfl,hb1⟩)|(go_at_call 91;(with_reducible refine (HQ2.out _).mono ?_);rintro e2 w2 ⟨n2,d2,rfl,hb2⟩)
   go_upto_region 7 with first|(go_at_call 35;(with_reducible refine (HP1.out _).mono ?_);rintro e3 w3 ⟨A,i,c,B,j,d,rfl,h3,hb3⟩;have H3:=qh h3;clear h3)|(go_at_call 35;(with_reducible refine (HP2.out _).mono ?_);rintro e4 w4 ⟨C,i',c',D,j',d',rfl,h4,hb4⟩;have H4:=qh h4;clear h4)
   obtain ⟨B1,B2,B3⟩:=jc6 hb4
   obtain ⟨V,hV⟩:∃V,(w4.alloc (.cells #[.bool s2, .slice C i' c'] 74)).alloc (.cells #[.bool false, .slice D j' d'] 74)=V:=⟨_,rfl⟩
   obtain ⟨B4,B5,B6⟩:=jc6 (w:=w4) (T:=74) (S:=74) (c:= #[.bool s2, .slice C i' c']) (d:= #[.bool false, .slice D j' d']) (w':=V) (by rw [hV];exact Below.refl _ _)
   have bV:Below w.heap.size w V:=ja3 (ja3 (ja3 (ja3 hb1 hb2) hb3) B3) B6
   obtain ⟨v1,v2, -⟩:=jah (B1.below B6)
   obtain ⟨v3,v4, -⟩:=jah (B2.below B6)
   obtain ⟨v5,v6, -⟩:=jah B4
   obtain ⟨v7,v8, -⟩:=jah B5
   have z0:=(B1.below B6).lt
   have z1:=(B2.below B6).lt
   have z2:=B4.lt
   have z3:=B5.lt
   have R1:=H3.out.1.below (ja3 B3 B6)
   have R2:=H3.out.2.below (ja3 B3 B6)
   have R3:=H4.out.1.below B6
   have R4:=H4.out.2.below B6
   rw [hV]
   clear hV H3 H4 B1 B2 B3 B4 B5 B6 hb1 hb2 hb3 hb4 HQ1 HQ2 HP1 HP2 hbb
   have HT1:=qh (fun W (hb:Below V.heap.size V W)=>jb1 (R1.below hb) (R4.below hb) (by have:=HH.out;omega) (by have:=HH.out;omega))
   have HT2:=qh (fun W (hb:Below V.heap.size V W)=>jb1 (R3.below hb) (R2.below hb) (by have:=HH.out;omega) (by have:=HH.out;omega))
   have HT3:=qh (fun W (hb:Below V.heap.size V W)=>jb1 (R2.below hb) (R4.below hb) (by have:=HH.out;omega) (by have:=HH.out;omega))
   have HFR:=qh (fun W (u v:Value) L M (h:Rz W u (p*(s:Int)+r*(q:Int)) L) (h':Rz W v ((q:Int)*(s:Int)) M) (hL:L≤20000) (hM:M≤20000)=>(show Calls Tryz.prog 93 #[u,v] W fun e w'=>e= .returned (bs R)∧Below W.heap.size W w' from by
    have:=jbi h h' hL hM HH.out.2.2
    rwa [HE.out] at this))
   clear R1 R2 R3 R4
   refine ja4 (fun w'=>Below V.heap.size V w') [] (by kernel_rfl) ?_
   refine tb 0 (.agg #[.bool s1, .slice A i c]) [2] rfl (by kernel_rfl) (fun _ _ _ h=>h) (by rfl) (by intros;go_simp) bq0 ?_
   simp only [ppq]
   refine tb 1 (.agg #[.bool false, .slice D j' d']) [2] rfl (by kernel_rfl) (fun _ _ _ h=>h) (by rfl) (by intros;go_simp) bq0 ?_
   simp only [ppq]
   refine tb 3 (.agg #[.bool s2, .slice C i' c']) [5] rfl (by kernel_rfl) (fun _ _ _ h=>h) (by rfl) (by intros;go_simp) bq0 ?_
   simp only [ppq]
   refine tb 4 (.agg #[.bool false, .slice B j d]) [5] rfl (by kernel_rfl) (fun _ _ _ h=>h) (by rfl) (by intros;go_simp) bq0 ?_
   simp only [ppq]
   refine tb 7 (.agg #[.bool false, .slice B j d]) [9] rfl (by kernel_rfl) (fun _ _ _ h=>h) (by rfl) (by intros;go_simp) bq0 ?_
   simp only [ppq]
   refine tb 8 (.agg #[.bool false, .slice D j' d']) [9] rfl (by kernel_rfl) (fun _ _ _ h=>h) (by rfl) (by intros;go_simp) bq0 ?_
   simp only [ppq]
   refine rd1 2 (by kernel_rfl) rfl (fun K hK=> ?_)
   go_simp
   go_wp2_with (go_at_call 94;(with_reducible refine (HT1.out _ bq0).mono ?_);rintro e12 w12 ⟨r12,rfl,x12,hb12⟩;have H12:=qh x12;clear x12)
   have sS12:=qh (bst bq0 hb12)
   refine hK.out _ _ (fun _=>sS12.out) ?_
   clear hK K
   refine rd1 5 (by kernel_rfl) rfl (fun K hK=> ?_)
   go_simp
   go_wp2_with (go_at_call 94;(with_reducible refine (HT2.out _ sS12.out).mono ?_);rintro e13 w13 ⟨r13,rfl,x13,hb13⟩;have H13:=qh x13;clear x13)
   have sS13:=qh (bst sS12.out hb13)
   refine hK.out _ _ (fun _=>sS13.out) ?_
   clear hK K
   refine rd1 6 (by kernel_rfl) rfl (fun K hK=> ?_)
   go_simp
   go_wp2_with (go_at_call 95;(with_reducible refine (jib (H12.out.below hb13) H13.out (by have:=HH.out;omega) (by have:=HH.out;omega)).mono ?_);rintro e14 w14 ⟨r14,rfl,x14,hb14⟩;have H14:=qh x14;clear x14)
   have sS14:=qh (bst sS13.out hb14)
   refine hK.out _ _ (fun _=>sS14.out) ?_
   clear hK K
   refine rd1 9 (by kernel_rfl) rfl (fun K hK=> ?_)
   go_simp
   go_wp2_with (go_at_call 94;(with_reducible refine (HT3.out _ sS14.out).mono ?_);rintro e15 w15 ⟨r15,rfl,x15,hb15⟩;have H15:=qh x15;clear x15)
   have sS15:=qh (bst sS14.out hb15)
   refine hK.out _ _ (fun _=>sS15.out) ?_
   clear hK K
   refine rd1 10 (by kernel_rfl) rfl (fun K hK=> ?_)
   go_simp
   go_wp2_with (go_at_call 93;(with_reducible refine (HFR.out _ _ _ _ _ (H14.out.below hb15) H15.out (by have:=HH.out;omega) (by have:=HH.out;omega)).mono ?_);rintro e16 w16 ⟨rfl,hb16⟩)
   have sS16:=qh (bst sS15.out hb16)
   refine hK.out _ _ (fun _=>sS16.out) ?_
   clear hK K
   refine rd1 11 (by kernel_rfl) rfl (fun K hK=> ?_)
   go_simp
   refine hK.out _ _ (fun _=>(bq (by with_reducible repeat' first|assumption|constructor|go_size))) ?_
   clear hK K
   refine ja2 (by kernel_rfl) ?_ _
   have bE:=ja3 bV sS16.out
   go_wp2
   go_ret
   exact ⟨rfl,(bq (by with_reducible repeat' first|assumption|constructor|go_size))⟩
 | true=>
   cases b2 with
   | true=>cases hbb
   | false=>
     go_upto_region 5 with first|(go_at_call 91;(with_reducible refine (HQ1.out _).mono ?_);rintro e1 w1 ⟨n1,d1,rfl,hb1⟩)|(go_at_call 91;(with_reducible refine (HQ2.out _).mono ?_);rintro e2 w2 ⟨n2,d2,rfl,hb2⟩)
     go_upto_region 7 with first|(go_at_call 35;(with_reducible refine (HP1.out _).mono ?_);rintro e3 w3 ⟨A,i,c,B,j,d,rfl,h3,hb3⟩;have H3:=qh h3;clear h3)|(go_at_call 35;(with_reducible refine (HP2.out _).mono ?_);rintro e4 w4 ⟨C,i',c',D,j',d',rfl,h4,hb4⟩;have H4:=qh h4;clear h4)
     obtain ⟨B1,B2,B3⟩:=jc6 hb4
     obtain ⟨V,hV⟩:∃V,(w4.alloc (.cells #[.bool s2, .slice C i' c'] 74)).alloc (.cells #[.bool false, .slice D j' d'] 74)=V:=⟨_,rfl⟩
     obtain ⟨B4,B5,B6⟩:=jc6 (w:=w4) (T:=74) (S:=74) (c:= #[.bool s2, .slice C i' c']) (d:= #[.bool false, .slice D j' d']) (w':=V) (by rw [hV];exact Below.refl _ _)
     have bV:Below w.heap.size w V:=ja3 (ja3 (ja3 (ja3 hb1 hb2) hb3) B3) B6
     obtain ⟨v1,v2, -⟩:=jah (B1.below B6)
     obtain ⟨v3,v4, -⟩:=jah (B2.below B6)
     obtain ⟨v5,v6, -⟩:=jah B4
     obtain ⟨v7,v8, -⟩:=jah B5
     have z0:=(B1.below B6).lt
     have z1:=(B2.below B6).lt
     have z2:=B4.lt
     have z3:=B5.lt
     have R1:=H3.out.1.below (ja3 B3 B6)
     have R2:=H3.out.2.below (ja3 B3 B6)
     have R3:=H4.out.1.below B6
     have R4:=H4.out.2.below B6
     rw [hV]
     clear hV H3 H4 B1 B2 B3 B4 B5 B6 hb1 hb2 hb3 hb4 HQ1 HQ2 HP1 HP2 hbb
     have HT1:=qh (fun W (hb:Below V.heap.size V W)=>jb1 (R1.below hb) (R4.below hb) (by have:=HH.out;omega) (by have:=HH.out;omega))
     have HT2:=qh (fun W (hb:Below V.heap.size V W)=>jb1 (R3.below hb) (R2.below hb) (by have:=HH.out;omega) (by have:=HH.out;omega))
     have HT3:=qh (fun W (hb:Below V.heap.size V W)=>jb1 (R2.below hb) (R4.below hb) (by have:=HH.out;omega) (by have:=HH.out;omega))
     have HFR:=qh (fun W (u v:Value) L M (h:Rz W u (p*(s:Int)+r*(q:Int)) L) (h':Rz W v ((q:Int)*(s:Int)) M) (hL:L≤20000) (hM:M≤20000)=>(show Calls Tryz.prog 93 #[u,v] W fun e w'=>e= .returned (bs R)∧Below W.heap.size W w' from by
      have:=jbi h h' hL hM HH.out.2.2
      rwa [HE.out] at this))
     clear R1 R2 R3 R4
     refine ja4 (fun w'=>Below V.heap.size V w') [] (by kernel_rfl) ?_
     refine tb 0 (.agg #[.bool s1, .slice A i c]) [2] rfl (by kernel_rfl) (fun _ _ _ h=>h) (by rfl) (by intros;go_simp) bq0 ?_
     simp only [ppq]
     refine tb 1 (.agg #[.bool false, .slice D j' d']) [2] rfl (by kernel_rfl) (fun _ _ _ h=>h) (by rfl) (by intros;go_simp) bq0 ?_
     simp only [ppq]
     refine tb 3 (.agg #[.bool s2, .slice C i' c']) [5] rfl (by kernel_rfl) (fun _ _ _ h=>h) (by rfl) (by intros;go_simp) bq0 ?_
     simp only [ppq]
     refine tb 4 (.agg #[.bool false, .slice B j d]) [5] rfl (by kernel_rfl) (fun _ _ _ h=>h) (by rfl) (by intros;go_simp) bq0 ?_
     simp only [ppq]
     refine tb 7 (.agg #[.bool false, .slice B j d]) [9] rfl (by kernel_rfl) (fun _ _ _ h=>h) (by rfl) (by intros;go_simp) bq0 ?_
     simp only [ppq]
     refine tb 8 (.agg #[.bool false, .slice D j' d']) [9] rfl (by kernel_rfl) (fun _ _ _ h=>h) (by rfl) (by intros;go_simp) bq0 ?_
     simp only [ppq]
     refine rd1 2 (by kernel_rfl) rfl (fun K hK=> ?_)
     go_simp
     go_wp2_with (go_at_call 94;(with_reducible refine (HT1.out _ bq0).mono ?_);rintro e12 w12 ⟨r12,rfl,x12,hb12⟩;have H12:=qh x12;clear x12)
     have sS12:=qh (bst bq0 hb12)
     refine hK.out _ _ (fun _=>sS12.out) ?_
     clear hK K
     refine rd1 5 (by kernel_rfl) rfl (fun K hK=> ?_)
     go_simp
     go_wp2_with (go_at_call 94;(with_reducible refine (HT2.out _ sS12.out).mono ?_);rintro e13 w13 ⟨r13,rfl,x13,hb13⟩;have H13:=qh x13;clear x13)
     have sS13:=qh (bst sS12.out hb13)
     refine hK.out _ _ (fun _=>sS13.out) ?_
     clear hK K
     refine rd1 6 (by kernel_rfl) rfl (fun K hK=> ?_)
     go_simp
     go_wp2_with (go_at_call 95;(with_reducible refine (jib (H12.out.below hb13) H13.out (by have:=HH.out;omega) (by have:=HH.out;omega)).mono ?_);rintro e14 w14 ⟨r14,rfl,x14,hb14⟩;have H14:=qh x14;clear x14)
     have sS14:=qh (bst sS13.out hb14)
     refine hK.out _ _ (fun _=>sS14.out) ?_
     clear hK K
     refine rd1 9 (by kernel_rfl) rfl (fun K hK=> ?_)
     go_simp
     go_wp2_with (go_at_call 94;(with_reducible refine (HT3.out _ sS14.out).mono ?_);rintro e15 w15 ⟨r15,rfl,x15,hb15⟩;have H15:=qh x15;clear x15)
     have sS15:=qh (bst sS14.out hb15)
     refine hK.out _ _ (fun _=>sS15.out) ?_
     clear hK K
     refine rd1 10 (by kernel_rfl) rfl (fun K hK=> ?_)
     go_simp
     go_wp2_with (go_at_call 93;(with_reducible refine (HFR.out _ _ _ _ _ (H14.out.below hb15) H15.out (by have:=HH.out;omega) (by have:=HH.out;omega)).mono ?_);rintro e16 w16 ⟨rfl,hb16⟩)
     have sS16:=qh (bst sS15.out hb16)
     refine hK.out _ _ (fun _=>sS16.out) ?_
     clear hK K
     refine rd1 11 (by kernel_rfl) rfl (fun K hK=> ?_)
     go_simp
     refine hK.out _ _ (fun _=>(bq (by with_reducible repeat' first|assumption|constructor|go_size))) ?_
     clear hK K
     refine ja2 (by kernel_rfl) ?_ _
     have bE:=ja3 bV sS16.out
     go_wp2
     go_ret
     exact ⟨rfl,(bq (by with_reducible repeat' first|assumption|constructor|go_size))⟩
theorem jmR (hx:Dz k x) (hy:Dz m y) (hk:0 < k) (hm:0 < m) (hk2:k≤9000) (hm2:m≤9000) (hsm:¬(Sm x∧Sm y)):Calls Tryz.prog 37 #[bs (tq x),bs (tq y)] w (QP (x*y) w):=by
 obtain ⟨b1,hb1⟩:∃b,sm9 x=b:=⟨_,rfl⟩
 obtain ⟨b2,hb2⟩:∃b,sm9 y=b:=⟨_,rfl⟩
 have hbb:(b1 && b2)=false:=by
  rw [←hb1,←hb2]
  by_cases h1:sm9 x=true
  ·by_cases h2:sm9 y=true
   ·exact absurd ⟨je4.1 h1,je4.1 h2⟩ hsm
   ·rw [Bool.not_eq_true] at h2;rw [h2];simp
  ·rw [Bool.not_eq_true] at h1;rw [h1];rfl
 have HQ1:=qh (fun W=>jfQ (w:=W) hb1 hx hk (by omega))
 have HQ2:=qh (fun W=>jfQ (w:=W) hb2 hy hm (by omega))
 obtain ⟨s1,hs1⟩:∃b,decide (x.num < 0)=b:=⟨_,rfl⟩
 obtain ⟨s2,hs2⟩:∃b,decide (y.num < 0)=b:=⟨_,rfl⟩
 have HP1:=qh (fun W=>(jem (w:=W) hx hk (by omega)).mono fun e w' h=>h.at hs1 (show decide ((x.den:Int) < 0)=false by rw [decide_eq_false_iff_not];omega))
 have HP2:=qh (fun W=>(jem (w:=W) hy hm (by omega)).mono fun e w' h=>h.at hs2 (show decide ((y.den:Int) < 0)=false by rw [decide_eq_false_iff_not];omega))
 obtain ⟨X,hX⟩:∃X,tq x=X:=⟨_,rfl⟩
 obtain ⟨Y,hY⟩:∃X,tq y=X:=⟨_,rfl⟩
 rw [hX] at HQ1 HP1 ⊢
 rw [hY] at HQ2 HP2 ⊢
 obtain ⟨p,hp⟩:∃b,x.num=b:=⟨_,rfl⟩
 obtain ⟨q,hq⟩:∃b,x.den=b:=⟨_,rfl⟩
 obtain ⟨r,hr⟩:∃b,y.num=b:=⟨_,rfl⟩
 obtain ⟨s,hs⟩:∃b,y.den=b:=⟨_,rfl⟩
 have hq0:0 < q:=by rw [←hq];exact x.den_pos
 have hs0:0 < s:=by rw [←hs];exact y.den_pos
 have HH:=qh (And.intro (show k+3≤9003 by omega) (And.intro (show m+3≤9003 by omega) (show (q:Int)*(s:Int)≠0 from Int.mul_ne_zero (by omega) (by omega))))
 rw [hp,hq] at HP1
 rw [hr,hs] at HP2
 obtain ⟨R,hR⟩:∃R,tq (x*y)=R:=⟨_,rfl⟩
 have HE:=qh (show tq (Rat.divInt (p*r) ((q:Int)*(s:Int)))=R by rw [←hR,Rq.mul_eq,hp,hq,hr,hs])
 unfold QP
 rw [hR]
 clear hx hy hk hm hk2 hm2 hsm hb1 hb2 hX hY hs1 hs2 hp hq hr hs hq0 hs0 hR
 go_enter Tryz.func37,Tryz.ntmps37
 cases b1 with
 | false=>
   go_upto_region 5 with first|(go_at_call 91;(with_reducible refine (HQ1.out _).mono ?_);rintro e1 w1 ⟨n1,d1,rfl,hb1⟩)|(go_at_call 91;(with_reducible refine (HQ2.out _).mono ?_);rintro e2 w2 ⟨n2,d2,rfl,hb2⟩)
   go_upto_region 7 with first|(go_at_call 35;(with_reducible refine (HP1.out _).mono ?_);rintro e3 w3 ⟨A,i,c,B,j,d,rfl,h3,hb3⟩;have H3:=qh h3;clear h3)|(go_at_call 35;(with_reducible refine (HP2.out _).mono ?_);rintro e4 w4 ⟨C,i',c',D,j',d',rfl,h4,hb4⟩;have H4:=qh h4;clear h4)
   obtain ⟨B1,B2,B3⟩:=jc6 hb4
   obtain ⟨V,hV⟩:∃V,(w4.alloc (.cells #[.bool s2, .slice C i' c'] 74)).alloc (.cells #[.bool false, .slice D j' d'] 74)=V:=⟨_,rfl⟩
   obtain ⟨B4,B5,B6⟩:=jc6 (w:=w4) (T:=74) (S:=74) (c:= #[.bool s2, .slice C i' c']) (d:= #[.bool false, .slice D j' d']) (w':=V) (by rw [hV];exact Below.refl _ _)
   have bV:Below w.heap.size w V:=ja3 (ja3 (ja3 (ja3 hb1 hb2) hb3) B3) B6
   obtain ⟨v1,v2, -⟩:=jah (B1.below B6)
   obtain ⟨v3,v4, -⟩:=jah (B2.below B6)
   obtain ⟨v5,v6, -⟩:=jah B4
   obtain ⟨v7,v8, -⟩:=jah B5
   have z0:=(B1.below B6).lt
   have z1:=(B2.below B6).lt
   have z2:=B4.lt
   have z3:=B5.lt
   have R1:=H3.out.1.below (ja3 B3 B6)
   have R2:=H3.out.2.below (ja3 B3 B6)
   have R3:=H4.out.1.below B6
   have R4:=H4.out.2.below B6
   rw [hV]
   clear hV H3 H4 B1 B2 B3 B4 B5 B6 hb1 hb2 hb3 hb4 HQ1 HQ2 HP1 HP2 hbb
   have HT1:=qh (fun W (hb:Below V.heap.size V W)=>jb1 (R1.below hb) (R3.below hb) (by have:=HH.out;omega) (by have:=HH.out;omega))
   have HT3:=qh (fun W (hb:Below V.heap.size V W)=>jb1 (R2.below hb) (R4.below hb) (by have:=HH.out;omega) (by have:=HH.out;omega))
   have HFR:=qh (fun W (u v:Value) L M (h:Rz W u (p*r) L) (h':Rz W v ((q:Int)*(s:Int)) M) (hL:L≤20000) (hM:M≤20000)=>(show Calls Tryz.prog 93 #[u,v] W fun e w'=>e= .returned (bs R)∧Below W.heap.size W w' from by
    have:=jbi h h' hL hM HH.out.2.2
    rwa [HE.out] at this))
   clear R1 R2 R3 R4
   refine ja4 (fun w'=>Below V.heap.size V w') [] (by kernel_rfl) ?_
   refine tb 0 (.agg #[.bool s1, .slice A i c]) [2] rfl (by kernel_rfl) (fun _ _ _ h=>h) (by rfl) (by intros;go_simp) bq0 ?_
   simp only [ppq]
   refine tb 1 (.agg #[.bool s2, .slice C i' c']) [2] rfl (by kernel_rfl) (fun _ _ _ h=>h) (by rfl) (by intros;go_simp) bq0 ?_
   simp only [ppq]
   refine tb 3 (.agg #[.bool false, .slice B j d]) [5] rfl (by kernel_rfl) (fun _ _ _ h=>h) (by rfl) (by intros;go_simp) bq0 ?_
   simp only [ppq]
   refine tb 4 (.agg #[.bool false, .slice D j' d']) [5] rfl (by kernel_rfl) (fun _ _ _ h=>h) (by rfl) (by intros;go_simp) bq0 ?_
   simp only [ppq]
   refine rd1 2 (by kernel_rfl) rfl (fun K hK=> ?_)
   go_simp
   go_wp2_with (go_at_call 94;(with_reducible refine (HT1.out _ bq0).mono ?_);rintro e12 w12 ⟨r12,rfl,x12,hb12⟩;have H12:=qh x12;clear x12)
   have sS12:=qh (bst bq0 hb12)
   refine hK.out _ _ (fun _=>sS12.out) ?_
   clear hK K
   refine rd1 5 (by kernel_rfl) rfl (fun K hK=> ?_)
   go_simp
   go_wp2_with (go_at_call 94;(with_reducible refine (HT3.out _ sS12.out).mono ?_);rintro e13 w13 ⟨r13,rfl,x13,hb13⟩;have H13:=qh x13;clear x13)
   have sS13:=qh (bst sS12.out hb13)
   refine hK.out _ _ (fun _=>sS13.out) ?_
   clear hK K
   refine rd1 6 (by kernel_rfl) rfl (fun K hK=> ?_)
   go_simp
   go_wp2_with (go_at_call 93;(with_reducible refine (HFR.out _ _ _ _ _ (H12.out.below hb13) H13.out (by have:=HH.out;omega) (by have:=HH.out;omega)).mono ?_);rintro e16 w16 ⟨rfl,hb16⟩)
   have sS16:=qh (bst sS13.out hb16)
   refine hK.out _ _ (fun _=>sS16.out) ?_
   clear hK K
   refine rd1 7 (by kernel_rfl) rfl (fun K hK=> ?_)
   go_simp
   refine hK.out _ _ (fun _=>(bq (by with_reducible repeat' first|assumption|constructor|go_size))) ?_
   clear hK K
   refine ja2 (by kernel_rfl) ?_ _
   have bE:=ja3 bV sS16.out
   go_wp2
   go_ret
   exact ⟨rfl,(bq (by with_reducible repeat' first|assumption|constructor|go_size))⟩
 | true=>
   cases b2 with
   | true=>cases hbb
   | false=>
     go_upto_region 5 with first|(go_at_call 91;(with_reducible refine (HQ1.out _).mono ?_);rintro e1 w1 ⟨n1,d1,rfl,hb1⟩)|(go_at_call 91;(with_reducible refine (HQ2.out _).mono ?_);rintro e2 w2 ⟨n2,d2,rfl,hb2⟩)
     go_upto_region 7 with first|(go_at_call 35;(with_reducible refine (HP1.out _).mono ?_);rintro e3 w3 ⟨A,i,c,B,j,d,rfl,h3,hb3⟩;have H3:=qh h3;clear h3)|(go_at_call 35;(with_reducible refine (HP2.out _).mono ?_);rintro e4 w4 ⟨C,i',c',D,j',d',rfl,h4,hb4⟩;have H4:=qh h4;clear h4)
     obtain ⟨B1,B2,B3⟩:=jc6 hb4
     obtain ⟨V,hV⟩:∃V,(w4.alloc (.cells #[.bool s2, .slice C i' c'] 74)).alloc (.cells #[.bool false, .slice D j' d'] 74)=V:=⟨_,rfl⟩
     obtain ⟨B4,B5,B6⟩:=jc6 (w:=w4) (T:=74) (S:=74) (c:= #[.bool s2, .slice C i' c']) (d:= #[.bool false, .slice D j' d']) (w':=V) (by rw [hV];exact Below.refl _ _)
     have bV:Below w.heap.size w V:=ja3 (ja3 (ja3 (ja3 hb1 hb2) hb3) B3) B6
     obtain ⟨v1,v2, -⟩:=jah (B1.below B6)
     obtain ⟨v3,v4, -⟩:=jah (B2.below B6)
     obtain ⟨v5,v6, -⟩:=jah B4
     obtain ⟨v7,v8, -⟩:=jah B5
     have z0:=(B1.below B6).lt
     have z1:=(B2.below B6).lt
     have z2:=B4.lt
     have z3:=B5.lt
     have R1:=H3.out.1.below (ja3 B3 B6)
     have R2:=H3.out.2.below (ja3 B3 B6)
     have R3:=H4.out.1.below B6
     have R4:=H4.out.2.below B6
     rw [hV]
     clear hV H3 H4 B1 B2 B3 B4 B5 B6 hb1 hb2 hb3 hb4 HQ1 HQ2 HP1 HP2 hbb
     have HT1:=qh (fun W (hb:Below V.heap.size V W)=>jb1 (R1.below hb) (R3.below hb) (by have:=HH.out;omega) (by have:=HH.out;omega))
     have HT3:=qh (fun W (hb:Below V.heap.size V W)=>jb1 (R2.below hb) (R4.below hb) (by have:=HH.out;omega) (by have:=HH.out;omega))
     have HFR:=qh (fun W (u v:Value) L M (h:Rz W u (p*r) L) (h':Rz W v ((q:Int)*(s:Int)) M) (hL:L≤20000) (hM:M≤20000)=>(show Calls Tryz.prog 93 #[u,v] W fun e w'=>e= .returned (bs R)∧Below W.heap.size W w' from by
      have:=jbi h h' hL hM HH.out.2.2
      rwa [HE.out] at this))
     clear R1 R2 R3 R4
     refine ja4 (fun w'=>Below V.heap.size V w') [] (by kernel_rfl) ?_
     refine tb 0 (.agg #[.bool s1, .slice A i c]) [2] rfl (by kernel_rfl) (fun _ _ _ h=>h) (by rfl) (by intros;go_simp) bq0 ?_
     simp only [ppq]
     refine tb 1 (.agg #[.bool s2, .slice C i' c']) [2] rfl (by kernel_rfl) (fun _ _ _ h=>h) (by rfl) (by intros;go_simp) bq0 ?_
     simp only [ppq]
     refine tb 3 (.agg #[.bool false, .slice B j d]) [5] rfl (by kernel_rfl) (fun _ _ _ h=>h) (by rfl) (by intros;go_simp) bq0 ?_
     simp only [ppq]
     refine tb 4 (.agg #[.bool false, .slice D j' d']) [5] rfl (by kernel_rfl) (fun _ _ _ h=>h) (by rfl) (by intros;go_simp) bq0 ?_
     simp only [ppq]
     refine rd1 2 (by kernel_rfl) rfl (fun K hK=> ?_)
     go_simp
     go_wp2_with (go_at_call 94;(with_reducible refine (HT1.out _ bq0).mono ?_);rintro e12 w12 ⟨r12,rfl,x12,hb12⟩;have H12:=qh x12;clear x12)
     have sS12:=qh (bst bq0 hb12)
     refine hK.out _ _ (fun _=>sS12.out) ?_
     clear hK K
     refine rd1 5 (by kernel_rfl) rfl (fun K hK=> ?_)
     go_simp
     go_wp2_with (go_at_call 94;(with_reducible refine (HT3.out _ sS12.out).mono ?_);rintro e13 w13 ⟨r13,rfl,x13,hb13⟩;have H13:=qh x13;clear x13)
     have sS13:=qh (bst sS12.out hb13)
     refine hK.out _ _ (fun _=>sS13.out) ?_
     clear hK K
     refine rd1 6 (by kernel_rfl) rfl (fun K hK=> ?_)
     go_simp
     go_wp2_with (go_at_call 93;(with_reducible refine (HFR.out _ _ _ _ _ (H12.out.below hb13) H13.out (by have:=HH.out;omega) (by have:=HH.out;omega)).mono ?_);rintro e16 w16 ⟨rfl,hb16⟩)
     have sS16:=qh (bst sS13.out hb16)
     refine hK.out _ _ (fun _=>sS16.out) ?_
     clear hK K
     refine rd1 7 (by kernel_rfl) rfl (fun K hK=> ?_)
     go_simp
     refine hK.out _ _ (fun _=>(bq (by with_reducible repeat' first|assumption|constructor|go_size))) ?_
     clear hK K
     refine ja2 (by kernel_rfl) ?_ _
     have bE:=ja3 bV sS16.out
     go_wp2
     go_ret
     exact ⟨rfl,(bq (by with_reducible repeat' first|assumption|constructor|go_size))⟩
theorem jpJ (hx:Sm x) (hy:Sm y):Calls Tryz.prog 37 #[bs (tq x),bs (tq y)] w (QP (x*y) w):=by
 have HX:=qh (fun W=>jdf (w:=W) rfl hx)
 have HY:=qh (fun W=>jdf (w:=W) rfl hy)
 unfold QP
 rw [Rq.mul_eq]
 have b1: -1000000000000000000≤x.num*y.num∧x.num*y.num≤1000000000000000000:=by
  have h:=jfu hx.num hy.num
  have e:(x.num*y.num).natAbs=x.num.natAbs*y.num.natAbs:=Int.natAbs_mul ..
  omega
 have b3:=jfu hx.den hy.den
 have d1:=Nat.mul_pos x.den_pos y.den_pos
 obtain ⟨X,hX⟩:∃X,tq x=X:=⟨_,rfl⟩
 obtain ⟨Y,hY⟩:∃X,tq y=X:=⟨_,rfl⟩
 rw [hX] at HX ⊢
 rw [hY] at HY ⊢
 obtain ⟨n,hn⟩:∃n,x.num=n:=⟨_,rfl⟩
 obtain ⟨m,hm⟩:∃n,y.num=n:=⟨_,rfl⟩
 obtain ⟨d,hd⟩:∃n,x.den=n:=⟨_,rfl⟩
 obtain ⟨e,he⟩:∃n,y.den=n:=⟨_,rfl⟩
 rw [hn,hm,hd,he]
 rw [hn,hm] at b1
 rw [hd,he] at b3 d1
 rw [hn,hd] at HX
 rw [hm,he] at HY
 have m1:wrap64 (n*m)=n*m:=jfe (jix b1)
 have m4:wrap64 ((d:Int)*(e:Int))=(d:Int)*(e:Int):=by
  have:(d:Int)*(e:Int)=((d*e:Nat):Int):=by rw [Int.natCast_mul]
  rw [this];exact jfe (jnM b3)
 have HO:Hid (∀W,Calls Tryz.prog 92 #[.int .i64 (n*m), .int .i64 ((d:Int)*(e:Int))] W fun r w'=>r= .returned (bs (tq (Rat.divInt (n*m) ((d:Int)*(e:Int)))))∧Below W.heap.size W w'):=qh (fun W=>by
  have:=jiu (w:=W) (a:=n*m) (d:=d*e) d1 (Nat.le_trans b3 (by decide)) (jnW (jix b1))
  rwa [Int.natCast_mul] at this)
 obtain ⟨R,hR⟩:∃R,tq (Rat.divInt (n*m) ((d:Int)*(e:Int)))=R:=⟨_,rfl⟩
 rw [hR] at HO ⊢
 clear b1 b3 d1 hn hm hd he hR hX hY hx hy
 go_enter Tryz.func37,Tryz.ntmps37
 go_wp2_with (first|(go_at_call 91;(with_reducible show Calls _ _ #[bs X] _ _);(with_reducible refine (HX.out _).mono ?_);rintro e1 w1 ⟨rfl,hb1⟩;obtain ⟨hc1,hf1⟩:=ja0 hb1;(try simp only [dw] at hc1 hf1))|(go_at_call 91;(with_reducible show Calls _ _ #[bs Y] _ _);(with_reducible refine (HY.out _).mono ?_);rintro e2 w2 ⟨rfl,hb2⟩;obtain ⟨hc2,hf2⟩:=ja0 hb2;(try simp only [dw] at hc2 hf2))|(go_at_call 92;(with_reducible refine (HO.out _).mono ?_);rintro e3 w3 ⟨rfl,hb3⟩;obtain ⟨hc3,hf3⟩:=ja0 hb3;(try simp only [dw] at hc3 hf3)))
 go_ret
 exact ⟨rfl,(bq (by with_reducible repeat' first|assumption|constructor|go_size))⟩
theorem jpI (hx:Dz k x) (hy:Dz m y) (hk:0 < k) (hm:0 < m) (hk2:k≤9000) (hm2:m≤9000):Calls Tryz.prog 39 #[bs (tq x),bs (tq y)] w (QP (x+y) w):=by
 by_cases h:Sm x∧Sm y
 ·exact jqa rfl rfl h.1 h.2
 ·exact jnj hx hy hk hm hk2 hm2 h
theorem jpr (hx:Dz k x) (hy:Dz m y) (hk:0 < k) (hm:0 < m) (hk2:k≤9000) (hm2:m≤9000):Calls Tryz.prog 37 #[bs (tq x),bs (tq y)] w (QP (x*y) w):=by
 by_cases h:Sm x∧Sm y
 ·exact jpJ h.1 h.2
 ·exact jmR hx hy hk hm hk2 hm2 h
end

theorem Dz.inv {k:Nat} {x:Rat} (h:Dz k x) (h0:x≠0):Dz k x⁻¹:=by
 have hn:x.num≠0:=fun e=>h0 (Rat.num_eq_zero.1 e)
 rw [Rat.inv_def]
 rcases Int.lt_or_le x.num 0 with e|e
 ·have e2:x.num= -((x.num.natAbs:Nat):Int):=by omega
  have:Rat.divInt (x.den:Int) x.num=Rat.divInt (-(x.den:Int)) ((x.num.natAbs:Nat):Int):=by
   rw [←Rat.neg_divInt_neg,show -x.num=((x.num.natAbs:Nat):Int) by omega]
  rw [this]
  exact jdd (by omega) (by rw [Int.natAbs_neg,Int.natAbs_natCast];exact h.den) h.num
 ·have e2:x.num=((x.num.natAbs:Nat):Int):=by omega
  rw [e2]
  exact jdd (by omega) (by rw [Int.natAbs_natCast];exact h.den) h.num
theorem Dz.div {k m:Nat} {x y:Rat} (hx:Dz k x) (hy:Dz m y) (h0:y≠0):Dz (k+m) (x / y):=by
 rw [Rat.div_def];exact hx.mul (hy.inv h0)
theorem jg5 {k:Nat} {x:Rat} (h:Dz k x) (hk:0 < k) (hk2:k≤50000):(tq x).length≤100002:=by
 have:=jmN h hk;omega
section
variable {w:World} {x y:Rat} {k m:Nat}
theorem joK (hx:Dz k x) (hk:0 < k) (hk2:k≤9000) (h0:x≠0):Calls Tryz.prog 38 #[bs (tq x)] w (QP x⁻¹ w):=by
 have hn:x.num≠0:=fun e=>h0 (Rat.num_eq_zero.1 e)
 obtain ⟨s1,hs1⟩:∃b,decide (x.num < 0)=b:=⟨_,rfl⟩
 have HP:=qh (fun W=>(jem (w:=W) hx hk (by omega)).mono fun e w' h=>h.at hs1 (show decide ((x.den:Int) < 0)=false by rw [decide_eq_false_iff_not];omega))
 obtain ⟨X,hX⟩:∃X,tq x=X:=⟨_,rfl⟩
 rw [hX] at HP ⊢
 obtain ⟨R,hR⟩:∃R,tq x⁻¹=R:=⟨_,rfl⟩
 have HF:=qh (fun W (u v:Value) (h:Rz W u (x.den:Int) (k+3)) (h':Rz W v x.num (k+3))=>(show Calls Tryz.prog 93 #[u,v] W fun e w'=>e= .returned (bs R)∧Below W.heap.size W w' from by
  have:=jbi h h' (by omega) (by omega) hn
  rwa [←Rat.inv_def,hR] at this))
 unfold QP
 rw [hR]
 clear hx hk hk2 h0 hn hs1 hX hR
 go_enter Tryz.func38,Tryz.ntmps38
 go_wp2_with first|(go_at_call 35;(with_reducible refine (HP.out _).mono ?_);rintro e3 w3 ⟨A,i,c,B,j,d,rfl,h3,hb3⟩;have H3:=qh h3;clear h3)|(go_at_call 93;(with_reducible refine (HF.out _ _ _ (H3.out.2.below (bq (by with_reducible repeat' first|assumption|constructor|go_size))) (H3.out.1.below (bq (by with_reducible repeat' first|assumption|constructor|go_size)))).mono ?_);rintro e4 w4 ⟨rfl,hb4⟩)
 go_ret
 exact ⟨rfl,(bq (by with_reducible repeat' first|assumption|constructor|go_size))⟩
theorem jnV (hx:Dz k x) (hy:Dz m y) (hk:0 < k) (hm:0 < m) (hk2:k≤9000) (hm2:m≤9000) (h0:y≠0):Calls Tryz.prog 10 #[bs (tq x),bs (tq y)] w (QP (x / y) w):=by
 have HN:=qh (fun W=>joK (w:=W) hy hm hm2 h0)
 have HA:=qh (fun W=>jpr (w:=W) hx (hy.inv h0) hk hm hk2 hm2)
 rw [←Rat.div_def] at HA
 unfold QP at HN HA ⊢
 obtain ⟨X,hX⟩:∃m,tq x=m:=⟨_,rfl⟩
 obtain ⟨Y,hY⟩:∃m,tq y=m:=⟨_,rfl⟩
 obtain ⟨Z,hZ⟩:∃m,tq y⁻¹=m:=⟨_,rfl⟩
 obtain ⟨r,hr⟩:∃r,tq (x / y)=r:=⟨_,rfl⟩
 rw [hY,hZ] at HN
 rw [hX,hZ,hr] at HA
 rw [hX,hY,hr]
 clear hx hy hk hm hk2 hm2 h0 hX hY hZ hr
 go_enter Tryz.func10,Tryz.ntmps10
 go_wp2_with (first|(go_at_call 38;(with_reducible refine (HN.out _).mono ?_);rintro e1 w1 ⟨rfl,hb1⟩;obtain ⟨hc1,hf1⟩:=ja0 hb1;(try simp only [dw] at hc1 hf1))|(go_at_call 37;(with_reducible refine (HA.out _).mono ?_);rintro e2 w2 ⟨rfl,hb2⟩;obtain ⟨hc2,hf2⟩:=ja0 hb2;(try simp only [dw] at hc2 hf2)))
 go_ret
 exact ⟨rfl,(bq (by with_reducible repeat' first|assumption|constructor|go_size))⟩
theorem jqC (hx:Dz k x) (hk:0 < k) (hk2:k≤50000):Calls Tryz.prog 40 #[bs (tq x)] w (QP (-x) w):=
 jos (jpz x) (by have:=jg5 hx hk hk2;omega)
theorem jnF (hx:Dz k x) (hy:Dz m y) (hk:0 < k) (hm:0 < m) (hk2:k≤9000) (hm2:m≤9000):Calls Tryz.prog 11 #[bs (tq x),bs (tq y)] w (QP (x - y) w):=by
 have HN:=qh (fun W=>jqC (w:=W) hy hm (by omega))
 have HA:=qh (fun W=>jpI (w:=W) hx hy.neg hk hm hk2 hm2)
 rw [←Rat.sub_eq_add_neg] at HA
 unfold QP at HN HA ⊢
 obtain ⟨X,hX⟩:∃m,tq x=m:=⟨_,rfl⟩
 obtain ⟨Y,hY⟩:∃m,tq y=m:=⟨_,rfl⟩
 obtain ⟨Z,hZ⟩:∃m,tq (-y)=m:=⟨_,rfl⟩
 obtain ⟨r,hr⟩:∃r,tq (x - y)=r:=⟨_,rfl⟩
 rw [hY,hZ] at HN
 rw [hX,hZ,hr] at HA
 rw [hX,hY,hr]
 clear hx hy hk hm hk2 hm2 hX hY hZ hr
 go_enter Tryz.func11,Tryz.ntmps11
 go_wp2_with (first|(go_at_call 40;(with_reducible refine (HN.out _).mono ?_);rintro e1 w1 ⟨rfl,hb1⟩;obtain ⟨hc1,hf1⟩:=ja0 hb1;(try simp only [dw] at hc1 hf1))|(go_at_call 39;(with_reducible refine (HA.out _).mono ?_);rintro e2 w2 ⟨rfl,hb2⟩;obtain ⟨hc2,hf2⟩:=ja0 hb2;(try simp only [dw] at hc2 hf2)))
 go_ret
 exact ⟨rfl,(bq (by with_reducible repeat' first|assumption|constructor|go_size))⟩
theorem jfd {g:Int} (hg:sgn x.num=g) (hx:Dz k x) (hk:0 < k) (hk2:k≤50000):Calls Tryz.prog 13 #[bs (tq x)] w fun e w'=>e= .returned (.int .i64 g)∧Below w.heap.size w w':=
 jcC (by rw [jpL,hg]) (by have:=jg5 hx hk hk2;omega)
theorem jh6 {g:Int} (hg:Rq.cmpQ x y=g) (hx:Dz k x) (hy:Dz m y) (hk:0 < k) (hm:0 < m) (hk2:k≤9000) (hm2:m≤9000):Calls Tryz.prog 12 #[bs (tq x),bs (tq y)] w fun e w'=>e= .returned (.int .i64 g)∧Below w.heap.size w w':=by
 have HS:=qh (fun W=>jnF (w:=W) hx hy hk hm hk2 hm2)
 have HG:=qh (fun W=>jfd (w:=W) (x:=x - y) (g:=g) (by rw [jov,hg]) (hx.sub hy) (by omega) (by omega))
 unfold QP at HS
 obtain ⟨X,hX⟩:∃m,tq x=m:=⟨_,rfl⟩
 obtain ⟨Y,hY⟩:∃m,tq y=m:=⟨_,rfl⟩
 obtain ⟨r,hr⟩:∃r,tq (x - y)=r:=⟨_,rfl⟩
 rw [hX,hY,hr] at HS
 rw [hr] at HG
 rw [hX,hY]
 clear hg hx hy hk hm hk2 hm2 hX hY hr
 go_enter Tryz.func12,Tryz.ntmps12
 go_wp2_with (first|(go_at_call 11;(with_reducible refine (HS.out _).mono ?_);rintro e1 w1 ⟨rfl,hb1⟩;obtain ⟨hc1,hf1⟩:=ja0 hb1;(try simp only [dw] at hc1 hf1))|(go_at_call 13;(with_reducible refine (HG.out _).mono ?_);rintro e2 w2 ⟨rfl,hb2⟩;obtain ⟨hc2,hf2⟩:=ja0 hb2;(try simp only [dw] at hc2 hf2)))
 go_ret
 exact ⟨rfl,(bq (by with_reducible repeat' first|assumption|constructor|go_size))⟩
theorem jmp (x:Rat):sl (tq x)=(tq x).length↔x.den=1:=by
 have h1:=jjf x
 have h2:=jez x
 have key:sl (uq x)=(uq x).length↔x.den=1:=by
  rw [h1,h2]
  by_cases h:x.den=1
  ·rw [if_pos h];simp [h]
  ·rw [if_neg h];constructor
   ·intro e;omega
   ·intro e;exact absurd e h
 rw [jcc]
 split
 ·rw [show sl (45::uq x)=sl (uq x)+1 by rw [sl];rfl,List.length_cons,←key];omega
 ·exact key
theorem joY {b:Bool} (hb:decide (x.den=1)=b) (hx:Dz k x) (hk:0 < k) (hk2:k≤50000):Calls Tryz.prog 9 #[bs (tq x)] w fun e w'=>e= .returned (.bool b)∧Below w.heap.size w w':=by
 have hL:=jg5 hx hk hk2
 have HS:=qh (fun W=>jaK (w:=W) (l:=tq x) (by omega))
 have q1:((sl (tq x):Int)==((tq x).length:Int))=b:=by
  rw [←hb]
  by_cases h:x.den=1
  ·rw [decide_eq_true h,beq_iff_eq,(jmp x).2 h]
  ·rw [decide_eq_false h,beq_eq_false_iff_ne]
   intro e;exact h ((jmp x).1 (by omega))
 have q2:(sl (tq x)==(tq x).length)=b:=by
  rw [←hb]
  by_cases h:x.den=1
  ·rw [decide_eq_true h,beq_iff_eq,(jmp x).2 h]
  ·rw [decide_eq_false h,beq_eq_false_iff_ne]
   intro e;exact h ((jmp x).1 e)
 obtain ⟨X,hX⟩:∃X,tq x=X:=⟨_,rfl⟩
 rw [hX] at HS q1 q2 ⊢
 obtain ⟨j,hj⟩:∃j,sl X=j:=⟨_,rfl⟩
 rw [hj] at HS q1 q2
 clear hb hx hk hk2 hL hX hj
 go_enter Tryz.func9,Tryz.ntmps9
 go_wp2_with (go_at_call 33;(with_reducible refine (HS.out _).mono ?_);rintro e1 w1 ⟨rfl,hb1⟩;obtain ⟨hc1,hf1⟩:=ja0 hb1;(try simp only [dw] at hc1 hf1))
 go_ret
 exact ⟨by first|rfl|rw [q1]|rw [q2],(bq (by with_reducible repeat' first|assumption|constructor|go_size))⟩
end

def jfl (l:List UInt8) (y:Rat):Int:=
 if y - (y.floor:Rat)=0 then y.floor
 else y.floor+(if upK l (Rq.cmpQ (y - (y.floor:Rat)) (1/2)) (decide (y.floor % 2≠0)) then 1 else 0)
theorem mul_div_cancel {x s:Rat} (h:0 < s):x / s*s=x:=by
 rw [Rat.div_def,Rat.mul_assoc,Rat.inv_mul_cancel _ (by grind),Rat.mul_one]
theorem jcK {x s:Rat} (h:0 < s):x*s / s=x:=by
 rw [Rat.div_def,Rat.mul_assoc,Rat.mul_inv_cancel _ (by grind),Rat.mul_one]
theorem jeT {l:List UInt8} {x s:Rat} (h:0 < s):rnd l x s=((jfl l (x / s):Int):Rat)*s:=by
 unfold rnd jfl
 split
 ·rename_i e
  have:x / s=((x / s).floor:Rat):=by grind
  rw [←this,mul_div_cancel h]
 ·rfl
theorem jka {l:List UInt8} {x s:Rat} (h:0 < s):rnd l x s / s=((jfl l (x / s):Int):Rat):=by
 rw [jeT h,jcK h]
theorem jlm {l:List UInt8} {x s:Rat} (h:0 < s):rnd l (rnd l x s) s=rnd l x s:=by
 have hd:=jka (l:=l) (x:=x) h
 obtain ⟨z,hz⟩:∃z,rnd l x s=z:=⟨_,rfl⟩
 rw [hz] at hd ⊢
 unfold rnd
 rw [hd,Rat.floor_intCast,if_pos (by grind)]
theorem jiO (y:Rat):(y.floor:Rat)≤y:=Rat.floor_le y
theorem jkd (y:Rat):y < (y.floor:Rat)+1:=by
 have:=Rat.lt_floor_add_one y
 have e:((y.floor+1:Int):Rat)=(y.floor:Rat)+1:=by push_cast;rfl
 rwa [e] at this
theorem jaM (l:List UInt8) (y:Rat):(jfl l y=y.floor∧(y=(y.floor:Rat)∨upK l (Rq.cmpQ (y - (y.floor:Rat)) (1/2)) (decide (y.floor % 2≠0))=false))∨(jfl l y=y.floor+1∧(y.floor:Rat) < y∧upK l (Rq.cmpQ (y - (y.floor:Rat)) (1/2)) (decide (y.floor % 2≠0))=true):=by
 have h0:=jiO y
 unfold jfl
 by_cases h:y - (y.floor:Rat)=0
 ·rw [if_pos h];left;exact ⟨rfl, .inl (by grind)⟩
 ·rw [if_neg h]
  by_cases h1:upK l (Rq.cmpQ (y - (y.floor:Rat)) (1/2)) (decide (y.floor % 2≠0))=true
  ·right;rw [if_pos h1];exact ⟨rfl,by grind,h1⟩
  ·left;rw [if_neg h1];exact ⟨by simp, .inr (by simpa using h1)⟩
theorem jdT (z:Int):((z+1:Int):Rat)=(z:Rat)+1:=by push_cast;rfl
theorem jmJ {y:Rat}: -1 < ((jfl jcG y:Int):Rat) - y∧((jfl jcG y:Int):Rat) - y≤0:=by
 have h0:=jiO y
 have h1:=jkd y
 rcases jaM jcG y with ⟨e,_⟩|⟨_,_,h⟩
 ·rw [e];constructor <;> grind
 ·unfold upK at h;rw [if_pos rfl] at h;cases h
theorem jpo {y:Rat}:0≤((jfl kUp y:Int):Rat) - y∧((jfl kUp y:Int):Rat) - y < 1:=by
 have h0:=jiO y
 have h1:=jkd y
 rcases jaM kUp y with ⟨e,h|h⟩|⟨e,h2,_⟩
 ·rw [e,←h];constructor <;> grind
 ·unfold upK at h;rw [if_neg (by decide),if_pos rfl] at h;cases h
 ·rw [e,jdT];constructor <;> grind
theorem jic {r:Rat}:(Rq.cmpQ r (1/2) < 0↔r < 1/2)∧(0 < Rq.cmpQ r (1/2)↔1/2 < r):=⟨Rq.cmp_neg,Rq.cmp_pos⟩
theorem jiC {l:List UInt8} {y:Rat} (hl:l=jaW∨l=jaC): -(1/2)≤((jfl l y:Int):Rat) - y∧((jfl l y:Int):Rat) - y≤1/2:=by
 have h0:=jiO y
 have h1:=jkd y
 obtain ⟨c1,c2⟩:=jic (r:=y - (y.floor:Rat))
 rcases jaM l y with ⟨e,h|h⟩|⟨e,h2,h⟩
 ·rw [e,←h];constructor <;> grind
 ·have:y - (y.floor:Rat)≤1/2:=by
   apply Rat.not_lt.1
   intro h3
   have h4:=c2.2 h3
   unfold upK at h
   rcases hl with rfl|rfl
   ·rw [if_neg (by decide),if_neg (by decide),if_pos rfl,decide_eq_false_iff_not] at h;omega
   ·rw [if_neg (by decide),if_neg (by decide),if_neg (by decide),Bool.or_eq_false_iff,decide_eq_false_iff_not] at h;omega
  rw [e];constructor <;> grind
 ·have:1/2≤y - (y.floor:Rat):=by
   apply Rat.not_lt.1
   intro h3
   have h4:=c1.2 h3
   unfold upK at h
   rcases hl with rfl|rfl
   ·rw [if_neg (by decide),if_neg (by decide),if_pos rfl,decide_eq_true_iff] at h;omega
   ·rw [if_neg (by decide),if_neg (by decide),if_neg (by decide),Bool.or_eq_true,decide_eq_true_iff,Bool.and_eq_true,decide_eq_true_iff] at h;omega
  rw [e,jdT];constructor <;> grind
theorem jo0 {y:Rat}:((jfl jaW y:Int):Rat) - y≠ -(1/2):=by
 have h0:=jiO y
 have h1:=jkd y
 obtain ⟨c1,c2⟩:=jic (r:=y - (y.floor:Rat))
 rcases jaM jaW y with ⟨e,h|h⟩|⟨e,h2,h⟩
 ·rw [e,←h];grind
 ·have:y - (y.floor:Rat) < 1/2:=by
   apply c1.1
   unfold upK at h
   rw [if_neg (by decide),if_neg (by decide),if_pos rfl,decide_eq_false_iff_not] at h;omega
  rw [e];grind
 ·rw [e,jdT];grind
theorem jlS {l:List UInt8} {g h:Int} {o:Bool} (hgh:g≤h) (hu:upK l g o=true):upK l h o=true:=by
 unfold upK at hu ⊢
 by_cases h1:l=jcG
 ·rw [if_pos h1] at hu;cases hu
 ·rw [if_neg h1] at hu ⊢
  by_cases h2:l=kUp
  ·rw [if_pos h2]
  ·rw [if_neg h2] at hu ⊢
   by_cases h3:l=jaW
   ·rw [if_pos h3,decide_eq_true_iff] at hu ⊢;omega
   ·rw [if_neg h3,Bool.or_eq_true,decide_eq_true_iff,Bool.and_eq_true,decide_eq_true_iff] at hu ⊢
    rcases Int.lt_or_le 0 h with k|k
    ·left;omega
    ·right;exact ⟨by omega,(by rcases hu with a|a;omega;exact a.2)⟩
theorem jlq {x y z:Rat} (h:x≤y):Rq.cmpQ x z≤Rq.cmpQ y z:=by
 unfold Rq.cmpQ
 by_cases h1:x < z
 ·rw [if_pos h1];split <;> (try split) <;> decide
 ·rw [if_neg h1]
  have h2:¬y < z:=by grind
  rw [if_neg h2]
  by_cases h3:z < x
  ·rw [if_pos h3,if_pos (by grind)];decide
  ·rw [if_neg h3];split <;> decide
theorem jkv {l:List UInt8} {y z:Rat} (h:y≤z):jfl l y≤jfl l z:=by
 have hf:=Rat.floor_monotone h
 rcases Int.lt_or_eq_of_le hf with k|k
 ·rcases jaM l y with ⟨e,_⟩|⟨e,_,_⟩ <;> rcases jaM l z with ⟨e2,_⟩|⟨e2,_,_⟩ <;> omega
 ·rcases jaM l y with ⟨e,_⟩|⟨e,h2,hu⟩
  ·rcases jaM l z with ⟨e2,_⟩|⟨e2,_,_⟩ <;> omega
  ·rcases jaM l z with ⟨e2,h3⟩|⟨e2,_,_⟩
   ·exfalso
    have hz:(z.floor:Rat) < z:=by rw [←k];grind
    have hu2:=jlS (jlq (z:=1/2) (show y - (y.floor:Rat)≤z - (y.floor:Rat) by grind)) hu
    rw [k] at hu2
    rcases h3 with h3|h3
    ·rw [←h3] at hz;exact Rat.lt_irrefl hz
    ·rw [h3] at hu2;cases hu2
   ·omega
theorem jmK {x y s:Rat} (h:0 < s) (hxy:x≤y):x / s≤y / s:=by
 rw [Rat.div_def,Rat.div_def]
 exact Rat.mul_le_mul_of_nonneg_right hxy (Rat.le_of_lt (Rat.inv_pos.2 h))
theorem jnx {l:List UInt8} {x y s:Rat} (h:0 < s) (hxy:x≤y):rnd l x s≤rnd l y s:=by
 rw [jeT h,jeT h]
 exact Rat.mul_le_mul_of_nonneg_right (Rat.intCast_le_intCast.2 (jkv (jmK h hxy))) (Rat.le_of_lt h)
theorem jmV {l:List UInt8} {x s:Rat} (h:0 < s):(rnd l x s - x) / s=((jfl l (x / s):Int):Rat) - x / s:=by
 rw [jeT h,Rat.sub_eq_add_neg,Rat.div_def,Rat.add_mul,←Rat.div_def,jcK h,Rat.neg_mul,←Rat.div_def,←Rat.sub_eq_add_neg]

theorem Dz.of {x:Rat} {k:Nat} (h1:(Lib.decDigits x.num.natAbs).length≤k) (h2:(Lib.decDigits x.den).length≤k):Dz k x:=
 ⟨Nat.lt_of_lt_of_le (jeG _) (jbs h1),Nat.lt_of_lt_of_le (jeG _) (jbs h2)⟩
theorem IsNum.dz {l:List UInt8} {x:Rat} (h:IsNum l x):Dz 600 x:=Dz.of h.num h.den
section
variable {w:World} {kind step:List UInt8}
theorem jgA {k:Int} (hk:jba kind step=k) (hl:step.length≤15000):Calls Tryz.prog 6 #[rv kind step] w fun e w'=>e= .returned (.int .i64 k)∧Below w.heap.size w w':=by
 have HC:=qh (fun W=>jdL (w:=W) (l:=step) rfl hl)
 unfold jba at hk
 clear hl
 by_cases h1:kind=jcG
 ·subst h1
  rw [if_neg (by decide)] at hk
  have r0:jcG=[100,111,119,110]:=rfl
  rw [r0]
  clear r0
  by_cases hz:chk step=0
  ·have hx:=jbw hz
   have hstep:=hx.eq
   obtain ⟨s,hs⟩:∃s,sgn (numQ step).num=s:=⟨_,rfl⟩
   have HS:=qh (fun W=>(show Calls Tryz.prog 13 #[bs step] W fun e w'=>e= .returned (.int .i64 s)∧Below W.heap.size W w' from by
    have:=jfd (w:=W) hs hx.dz (by omega) (by omega)
    rwa [←hstep] at this))
   have hsle:(s≤0)↔numQ step≤0:=by
    rw [←hs]
    constructor
    ·intro h
     have:¬0 < numQ step:=fun h2=>by
      have:=jeV h2
      unfold sgn at h;rw [if_neg (by omega),if_pos (by omega)] at h;omega
     grind
    ·intro h
     have:(numQ step).num≤0:=by
      rcases Int.lt_or_le 0 (numQ step).num with k|k
      ·exfalso
       have:0 < numQ step:=by rw [Rat.lt_iff];simpa using k
       grind
      ·exact k
     unfold sgn;split <;> (try split) <;> omega
   rw [hz] at HC hk
   rw [if_neg (by decide)] at hk
   by_cases h0:s≤0
   ·rw [if_pos (hsle.1 h0)] at hk
    subst hk
    have q1:decide (s≤0)=true:=by simpa using h0
    clear hz hx hstep hs hsle h0
    go_enter Tryz.func6,Tryz.ntmps6
    go_wp2_with first|(go_at_call 8;(with_reducible refine (HC.out _).mono ?_);rintro e1 w1 ⟨rfl,hb1⟩;obtain ⟨hc1,hf1,z1_0⟩:=bc1 w hb1 (by go_size);(try simp only [dw] at hc1 hf1))|(go_at_call 13;(with_reducible refine (HS.out _).mono ?_);rintro e2 w2 ⟨rfl,hb2⟩;obtain ⟨hc2,hf2,z2_0⟩:=bc1 w hb2 (by go_size);(try simp only [dw] at hc2 hf2))
    go_ret
    exact ⟨rfl,(bq (by with_reducible repeat' first|assumption|constructor|go_size))⟩
   ·rw [if_neg (fun h=>h0 (hsle.2 h))] at hk
    subst hk
    have q1:decide (s≤0)=false:=by simpa using h0
    clear hz hx hstep hs hsle h0
    go_enter Tryz.func6,Tryz.ntmps6
    go_wp2_with first|(go_at_call 8;(with_reducible refine (HC.out _).mono ?_);rintro e1 w1 ⟨rfl,hb1⟩;obtain ⟨hc1,hf1,z1_0⟩:=bc1 w hb1 (by go_size);(try simp only [dw] at hc1 hf1))|(go_at_call 13;(with_reducible refine (HS.out _).mono ?_);rintro e2 w2 ⟨rfl,hb2⟩;obtain ⟨hc2,hf2,z2_0⟩:=bc1 w hb2 (by go_size);(try simp only [dw] at hc2 hf2))
    go_ret
    exact ⟨rfl,(bq (by with_reducible repeat' first|assumption|constructor|go_size))⟩
  ·rw [if_pos hz] at hk
   obtain ⟨c,hc⟩:∃c,chk step=c:=⟨_,rfl⟩
   rw [hc] at HC hk hz
   subst hk
   have q1:(c==0)=false:=by rw [beq_eq_false_iff_ne];exact hz
   clear hz hc
   go_enter Tryz.func6,Tryz.ntmps6
   go_wp2_with first|(go_at_call 8;(with_reducible refine (HC.out _).mono ?_);rintro e1 w1 ⟨rfl,hb1⟩;obtain ⟨hc1,hf1,z1_0⟩:=bc1 w hb1 (by go_size);(try simp only [dw] at hc1 hf1))
   go_ret
   exact ⟨rfl,(bq (by with_reducible repeat' first|assumption|constructor|go_size))⟩
 ·by_cases h2:kind=kUp
  ·subst h2
   rw [if_neg (by decide)] at hk
   have r0:kUp=[117,112]:=rfl
   rw [r0]
   clear r0 h1
   by_cases hz:chk step=0
   ·have hx:=jbw hz
    have hstep:=hx.eq
    obtain ⟨s,hs⟩:∃s,sgn (numQ step).num=s:=⟨_,rfl⟩
    have HS:=qh (fun W=>(show Calls Tryz.prog 13 #[bs step] W fun e w'=>e= .returned (.int .i64 s)∧Below W.heap.size W w' from by
     have:=jfd (w:=W) hs hx.dz (by omega) (by omega)
     rwa [←hstep] at this))
    have hsle:(s≤0)↔numQ step≤0:=by
     rw [←hs]
     constructor
     ·intro h
      have:¬0 < numQ step:=fun h2=>by
       have:=jeV h2
       unfold sgn at h;rw [if_neg (by omega),if_pos (by omega)] at h;omega
      grind
     ·intro h
      have:(numQ step).num≤0:=by
       rcases Int.lt_or_le 0 (numQ step).num with k|k
       ·exfalso
        have:0 < numQ step:=by rw [Rat.lt_iff];simpa using k
        grind
       ·exact k
      unfold sgn;split <;> (try split) <;> omega
    rw [hz] at HC hk
    rw [if_neg (by decide)] at hk
    by_cases h0:s≤0
    ·rw [if_pos (hsle.1 h0)] at hk
     subst hk
     have q1:decide (s≤0)=true:=by simpa using h0
     clear hz hx hstep hs hsle h0
     go_enter Tryz.func6,Tryz.ntmps6
     go_wp2_with first|(go_at_call 8;(with_reducible refine (HC.out _).mono ?_);rintro e1 w1 ⟨rfl,hb1⟩;obtain ⟨hc1,hf1,z1_0⟩:=bc1 w hb1 (by go_size);(try simp only [dw] at hc1 hf1))|(go_at_call 13;(with_reducible refine (HS.out _).mono ?_);rintro e2 w2 ⟨rfl,hb2⟩;obtain ⟨hc2,hf2,z2_0⟩:=bc1 w hb2 (by go_size);(try simp only [dw] at hc2 hf2))
     go_ret
     exact ⟨rfl,(bq (by with_reducible repeat' first|assumption|constructor|go_size))⟩
    ·rw [if_neg (fun h=>h0 (hsle.2 h))] at hk
     subst hk
     have q1:decide (s≤0)=false:=by simpa using h0
     clear hz hx hstep hs hsle h0
     go_enter Tryz.func6,Tryz.ntmps6
     go_wp2_with first|(go_at_call 8;(with_reducible refine (HC.out _).mono ?_);rintro e1 w1 ⟨rfl,hb1⟩;obtain ⟨hc1,hf1,z1_0⟩:=bc1 w hb1 (by go_size);(try simp only [dw] at hc1 hf1))|(go_at_call 13;(with_reducible refine (HS.out _).mono ?_);rintro e2 w2 ⟨rfl,hb2⟩;obtain ⟨hc2,hf2,z2_0⟩:=bc1 w hb2 (by go_size);(try simp only [dw] at hc2 hf2))
     go_ret
     exact ⟨rfl,(bq (by with_reducible repeat' first|assumption|constructor|go_size))⟩
   ·rw [if_pos hz] at hk
    obtain ⟨c,hc⟩:∃c,chk step=c:=⟨_,rfl⟩
    rw [hc] at HC hk hz
    subst hk
    have q1:(c==0)=false:=by rw [beq_eq_false_iff_ne];exact hz
    clear hz hc
    go_enter Tryz.func6,Tryz.ntmps6
    go_wp2_with first|(go_at_call 8;(with_reducible refine (HC.out _).mono ?_);rintro e1 w1 ⟨rfl,hb1⟩;obtain ⟨hc1,hf1,z1_0⟩:=bc1 w hb1 (by go_size);(try simp only [dw] at hc1 hf1))
    go_ret
    exact ⟨rfl,(bq (by with_reducible repeat' first|assumption|constructor|go_size))⟩
  ·by_cases h3:kind=jaW
   ·subst h3
    rw [if_neg (by decide)] at hk
    have r0:jaW=[104,97,108,102,45,117,112]:=rfl
    rw [r0]
    clear r0 h1 h2
    by_cases hz:chk step=0
    ·have hx:=jbw hz
     have hstep:=hx.eq
     obtain ⟨s,hs⟩:∃s,sgn (numQ step).num=s:=⟨_,rfl⟩
     have HS:=qh (fun W=>(show Calls Tryz.prog 13 #[bs step] W fun e w'=>e= .returned (.int .i64 s)∧Below W.heap.size W w' from by
      have:=jfd (w:=W) hs hx.dz (by omega) (by omega)
      rwa [←hstep] at this))
     have hsle:(s≤0)↔numQ step≤0:=by
      rw [←hs]
      constructor
      ·intro h
       have:¬0 < numQ step:=fun h2=>by
        have:=jeV h2
        unfold sgn at h;rw [if_neg (by omega),if_pos (by omega)] at h;omega
       grind
      ·intro h
       have:(numQ step).num≤0:=by
        rcases Int.lt_or_le 0 (numQ step).num with k|k
        ·exfalso
         have:0 < numQ step:=by rw [Rat.lt_iff];simpa using k
         grind
        ·exact k
       unfold sgn;split <;> (try split) <;> omega
     rw [hz] at HC hk
     rw [if_neg (by decide)] at hk
     by_cases h0:s≤0
     ·rw [if_pos (hsle.1 h0)] at hk
      subst hk
      have q1:decide (s≤0)=true:=by simpa using h0
      clear hz hx hstep hs hsle h0
      go_enter Tryz.func6,Tryz.ntmps6
      go_wp2_with first|(go_at_call 8;(with_reducible refine (HC.out _).mono ?_);rintro e1 w1 ⟨rfl,hb1⟩;obtain ⟨hc1,hf1,z1_0⟩:=bc1 w hb1 (by go_size);(try simp only [dw] at hc1 hf1))|(go_at_call 13;(with_reducible refine (HS.out _).mono ?_);rintro e2 w2 ⟨rfl,hb2⟩;obtain ⟨hc2,hf2,z2_0⟩:=bc1 w hb2 (by go_size);(try simp only [dw] at hc2 hf2))
      go_ret
      exact ⟨rfl,(bq (by with_reducible repeat' first|assumption|constructor|go_size))⟩
     ·rw [if_neg (fun h=>h0 (hsle.2 h))] at hk
      subst hk
      have q1:decide (s≤0)=false:=by simpa using h0
      clear hz hx hstep hs hsle h0
      go_enter Tryz.func6,Tryz.ntmps6
      go_wp2_with first|(go_at_call 8;(with_reducible refine (HC.out _).mono ?_);rintro e1 w1 ⟨rfl,hb1⟩;obtain ⟨hc1,hf1,z1_0⟩:=bc1 w hb1 (by go_size);(try simp only [dw] at hc1 hf1))|(go_at_call 13;(with_reducible refine (HS.out _).mono ?_);rintro e2 w2 ⟨rfl,hb2⟩;obtain ⟨hc2,hf2,z2_0⟩:=bc1 w hb2 (by go_size);(try simp only [dw] at hc2 hf2))
      go_ret
      exact ⟨rfl,(bq (by with_reducible repeat' first|assumption|constructor|go_size))⟩
    ·rw [if_pos hz] at hk
     obtain ⟨c,hc⟩:∃c,chk step=c:=⟨_,rfl⟩
     rw [hc] at HC hk hz
     subst hk
     have q1:(c==0)=false:=by rw [beq_eq_false_iff_ne];exact hz
     clear hz hc
     go_enter Tryz.func6,Tryz.ntmps6
     go_wp2_with first|(go_at_call 8;(with_reducible refine (HC.out _).mono ?_);rintro e1 w1 ⟨rfl,hb1⟩;obtain ⟨hc1,hf1,z1_0⟩:=bc1 w hb1 (by go_size);(try simp only [dw] at hc1 hf1))
     go_ret
     exact ⟨rfl,(bq (by with_reducible repeat' first|assumption|constructor|go_size))⟩
   ·by_cases h4:kind=jaC
    ·subst h4
     rw [if_neg (by decide)] at hk
     have r0:jaC=[104,97,108,102,45,101,118,101,110]:=rfl
     rw [r0]
     clear r0 h1 h2 h3
     by_cases hz:chk step=0
     ·have hx:=jbw hz
      have hstep:=hx.eq
      obtain ⟨s,hs⟩:∃s,sgn (numQ step).num=s:=⟨_,rfl⟩
      have HS:=qh (fun W=>(show Calls Tryz.prog 13 #[bs step] W fun e w'=>e= .returned (.int .i64 s)∧Below W.heap.size W w' from by
       have:=jfd (w:=W) hs hx.dz (by omega) (by omega)
       rwa [←hstep] at this))
      have hsle:(s≤0)↔numQ step≤0:=by
       rw [←hs]
       constructor
       ·intro h
        have:¬0 < numQ step:=fun h2=>by
         have:=jeV h2
         unfold sgn at h;rw [if_neg (by omega),if_pos (by omega)] at h;omega
        grind
       ·intro h
        have:(numQ step).num≤0:=by
         rcases Int.lt_or_le 0 (numQ step).num with k|k
         ·exfalso
          have:0 < numQ step:=by rw [Rat.lt_iff];simpa using k
          grind
         ·exact k
        unfold sgn;split <;> (try split) <;> omega
      rw [hz] at HC hk
      rw [if_neg (by decide)] at hk
      by_cases h0:s≤0
      ·rw [if_pos (hsle.1 h0)] at hk
       subst hk
       have q1:decide (s≤0)=true:=by simpa using h0
       clear hz hx hstep hs hsle h0
       go_enter Tryz.func6,Tryz.ntmps6
       go_wp2_with first|(go_at_call 8;(with_reducible refine (HC.out _).mono ?_);rintro e1 w1 ⟨rfl,hb1⟩;obtain ⟨hc1,hf1,z1_0⟩:=bc1 w hb1 (by go_size);(try simp only [dw] at hc1 hf1))|(go_at_call 13;(with_reducible refine (HS.out _).mono ?_);rintro e2 w2 ⟨rfl,hb2⟩;obtain ⟨hc2,hf2,z2_0⟩:=bc1 w hb2 (by go_size);(try simp only [dw] at hc2 hf2))
       go_ret
       exact ⟨rfl,(bq (by with_reducible repeat' first|assumption|constructor|go_size))⟩
      ·rw [if_neg (fun h=>h0 (hsle.2 h))] at hk
       subst hk
       have q1:decide (s≤0)=false:=by simpa using h0
       clear hz hx hstep hs hsle h0
       go_enter Tryz.func6,Tryz.ntmps6
       go_wp2_with first|(go_at_call 8;(with_reducible refine (HC.out _).mono ?_);rintro e1 w1 ⟨rfl,hb1⟩;obtain ⟨hc1,hf1,z1_0⟩:=bc1 w hb1 (by go_size);(try simp only [dw] at hc1 hf1))|(go_at_call 13;(with_reducible refine (HS.out _).mono ?_);rintro e2 w2 ⟨rfl,hb2⟩;obtain ⟨hc2,hf2,z2_0⟩:=bc1 w hb2 (by go_size);(try simp only [dw] at hc2 hf2))
       go_ret
       exact ⟨rfl,(bq (by with_reducible repeat' first|assumption|constructor|go_size))⟩
     ·rw [if_pos hz] at hk
      obtain ⟨c,hc⟩:∃c,chk step=c:=⟨_,rfl⟩
      rw [hc] at HC hk hz
      subst hk
      have q1:(c==0)=false:=by rw [beq_eq_false_iff_ne];exact hz
      clear hz hc
      go_enter Tryz.func6,Tryz.ntmps6
      go_wp2_with first|(go_at_call 8;(with_reducible refine (HC.out _).mono ?_);rintro e1 w1 ⟨rfl,hb1⟩;obtain ⟨hc1,hf1,z1_0⟩:=bc1 w hb1 (by go_size);(try simp only [dw] at hc1 hf1))
      go_ret
      exact ⟨rfl,(bq (by with_reducible repeat' first|assumption|constructor|go_size))⟩
    ·have hn:(jaw kind).isSome=false:=by unfold jaw;rw [if_neg h1,if_neg h2,if_neg h3,if_neg h4];rfl
     rw [hn,if_pos rfl] at hk
     subst hk
     have r1:(kind==[100,111,119,110])=false:=by rw [beq_eq_false_iff_ne];exact h1
     have r2:(kind==[117,112])=false:=by rw [beq_eq_false_iff_ne];exact h2
     have r3:(kind==[104,97,108,102,45,117,112])=false:=by rw [beq_eq_false_iff_ne];exact h3
     have r4:(kind==[104,97,108,102,45,101,118,101,110])=false:=by rw [beq_eq_false_iff_ne];exact h4
     clear h1 h2 h3 h4 hn HC
     go_enter Tryz.func6,Tryz.ntmps6
     go_wp2
     go_ret
     exact ⟨rfl,(bq (by with_reducible repeat' first|assumption|constructor|go_size))⟩
end

theorem Dz.lt {k:Nat} {x:Rat} (h:Dz k x):x < (((10^k:Nat):Int):Rat):=by
 rw [Rat.lt_iff,Rat.num_intCast,Rat.den_intCast]
 have h1:=h.num
 have h2:=x.den_pos
 have h3:10^k≤10^k*x.den:=Nat.le_mul_of_pos_right _ h2
 have h4:(((10^k:Nat):Int))*(x.den:Int)=((10^k*x.den:Nat):Int):=by rw [Int.natCast_mul]
 rw [h4]
 omega
theorem Dz.gt {k:Nat} {x:Rat} (h:Dz k x): -(((10^k:Nat):Int):Rat) < x:=by
 have:=h.neg.lt
 grind
theorem jnC {x:Rat} {N:Int} (h:x < (N:Rat)):x.num < N*(x.den:Int):=by
 have:=(Rat.lt_iff x (N:Rat)).1 h
 rw [Rat.num_intCast,Rat.den_intCast] at this
 omega
theorem jpX {x:Rat} {N:Int} (h: -(N:Rat) < x): -(N*(x.den:Int)) < x.num:=by
 have h1: -x < (N:Rat):=by grind
 have:=jnC h1
 rw [Rat.neg_num,Rat.neg_den] at this
 omega
theorem jim {x:Rat} {k:Nat} (h:Dz k x) (hk:0 < k) (hk2:k≤600):jbB x=tq x∧jbI x=0∧IsNum (tq x) x:=by
 have h1:=jbv h.num hk
 have h2:=jbv h.den hk
 have h3:jdB x=false:=by
  unfold jdB lng
  rw [Int.natAbs_natCast,decide_eq_false (by omega),decide_eq_false (by omega)];rfl
 unfold jbB jbI
 rw [h3]
 exact ⟨rfl,rfl,rfl,by omega,by omega⟩
theorem jpf (l:List UInt8) (y:Rat):((jfl l y:Int):Rat)≤y+1∧y - 1 < ((jfl l y:Int):Rat):=by
 have h0:=jiO y
 have h1:=jkd y
 rcases jaM l y with ⟨e,_⟩|⟨e,h2,_⟩
 ·rw [e];constructor <;> grind
 ·rw [e,jdT];constructor <;> grind
theorem jml {l:List UInt8} {x s:Rat} (h:0 < s):rnd l x s≤x+s∧x - s≤rnd l x s:=by
 obtain ⟨h1,h2⟩:=jpf l (x / s)
 have e1:=Rat.mul_le_mul_of_nonneg_right h1 (Rat.le_of_lt h)
 have e2:=Rat.mul_le_mul_of_nonneg_right (Rat.le_of_lt h2) (Rat.le_of_lt h)
 rw [←jeT h] at e1 e2
 rw [Rat.add_mul,mul_div_cancel h,Rat.one_mul] at e1
 rw [Rat.sub_eq_add_neg,Rat.add_mul,mul_div_cancel h,Rat.neg_mul,Rat.one_mul,←Rat.sub_eq_add_neg] at e2
 exact ⟨e1,e2⟩
theorem jiQ (n:Int) (s:Rat):(((n:Int):Rat)*s).den≤s.den:=by
 rw [Rq.mul_eq,Rat.num_intCast,Rat.den_intCast]
 have:=(jex (a:=n*s.num) (d:=s.den) s.den_pos).2
 rwa [show ((1:Nat):Int)*(s.den:Int)=(s.den:Int) by omega]
theorem jp8 {l:List UInt8} {x s:Rat} (h:0 < s):(rnd l x s).den≤s.den:=by
 rw [jeT h];exact jiQ _ _
theorem jnJ {l:List UInt8} {x s:Rat} {k:Nat} (h:0 < s) (hx:Dz k x) (hs:Dz k s):Dz (2*k+1) (rnd l x s):=by
 have hd:=jp8 (l:=l) (x:=x) h
 obtain ⟨h1,h2⟩:=jml (l:=l) (x:=x) h
 have a1:=hx.lt
 have a2:=hx.gt
 have a3:=hs.lt
 obtain ⟨z,hz⟩:∃z,rnd l x s=z:=⟨_,rfl⟩
 rw [hz] at hd h1 h2 ⊢
 have hd2:z.den < 10^k:=Nat.lt_of_le_of_lt hd hs.den
 have e2:(((2*10^k:Nat):Int):Rat)=(((10^k:Nat):Int):Rat)+(((10^k:Nat):Int):Rat):=by
  rw [←Rat.intCast_add]
  congr 1
  omega
 have b1:z < (((2*10^k:Nat):Int):Rat):=by rw [e2];grind
 have b2: -(((2*10^k:Nat):Int):Rat) < z:=by rw [e2];grind
 have c1:=jnC b1
 have c2:=jpX b2
 have e3:((2*10^k:Nat):Int)*(z.den:Int)=((2*10^k*z.den:Nat):Int):=(Int.natCast_mul _ _).symm
 rw [e3] at c1 c2
 have e4:2*10^k*z.den≤2*10^k*10^k:=Nat.mul_le_mul_left _ (Nat.le_of_lt hd2)
 have e5:2*10^k*10^k≤10^(2*k+1):=by
  rw [show 2*k+1=k+k+1 by omega,Nat.pow_succ,Nat.pow_add,Nat.mul_assoc,Nat.mul_comm 2]
  exact Nat.mul_le_mul_left _ (by omega)
 refine ⟨by omega,Nat.lt_of_lt_of_le hd2 (jbs (by omega))⟩
theorem Dz.small {x:Rat} (h:Dz 18 x):SmallQ x:=by
 have h1:=h.num
 have h2:=h.den
 have e:(10:Nat)^18=1000000000000000000:=by decide
 rw [e] at h1 h2
 exact ⟨by omega,by omega,by omega⟩
theorem Fw.dz {x:Rat} {l:List UInt8} {d:Int} (h:Fw d l x):Dz d.toNat x:=Dz.of (by have:=h.num;omega) (by have:=h.den;omega)
theorem jqI {w:World} {x:Rat} {k:Nat} (hx:Dz k x) (hk:0 < k) (hk2:k≤50000):Calls Tryz.prog 14 #[bs (tq x)] w (QP (if x < 0 then -x else x) w):=by
 refine (jkG (m:=tq (if x < 0 then -x else x)) ?_ (by have:=jg5 hx hk hk2;omega)).mono fun e w' h=>h
 have hn:x < 0↔x.num < 0:=by rw [Rat.lt_iff];simp
 unfold jlU
 rw [jcc x]
 by_cases h:x.num < 0
 ·rw [if_pos h,if_pos (show (45::uq x).head? =some 45 from rfl),if_pos (hn.2 h),jcc (-x),jnT,Rat.neg_num,if_neg (by omega)];rfl
 ·rw [if_neg h,if_neg (jhi x),if_neg (fun e=>h (hn.1 e)),jcc,if_neg h]
section
variable {w:World} {a b kind step:List UInt8} {x y s:Rat}
theorem jhE (hE:Env w) (hbad:¬((∃x,Fw 8 a x)∧(∃x,Fw 8 b x)∧(∃x,Fw 8 step x)∧jba kind step=0)):
  Calls Tryz.prog 3 #[bs a,bs b,rv kind step] w fun e w'=>e= .returned (.bool true)∧Below w.heap.size w w':=by
 have HW:Hid (∀W,Below w.heap.size w W→Calls Tryz.prog 4 #[] W fun e w'=>e= .returned (.bool true)∧Below W.heap.size W w'):=qh (fun W hb=>jf0 (hE.below hb))
 by_cases h1:∃x,Fw 8 a x
 ·have HF1:=qh (fun W=>jbV (w:=W) (jcV h1) (by omega) (by omega))
  by_cases h2:∃x,Fw 8 b x
  ·have HF2:=qh (fun W=>jbV (w:=W) (jcV h2) (by omega) (by omega))
   by_cases h3:∃x,Fw 8 step x
   ·have HF3:=qh (fun W=>jbV (w:=W) (jcV h3) (by omega) (by omega))
    obtain ⟨k,hk⟩:∃k,jba kind step=k:=⟨_,rfl⟩
    have hk0:k≠0:=fun e=>hbad ⟨h1,h2,h3,hk.trans e⟩
    have hl:step.length≤15000:=by obtain ⟨s,hs⟩:=h3;have:=hs.len;omega
    have HR:=qh (fun W=>jgA (w:=W) hk hl)
    have q1:(k != 0)=true:=by rw [bne_iff_ne];exact hk0
    clear h1 h2 h3 hk hk0 hl hbad hE
    go_enter Tryz.func3,Tryz.ntmps3
    go_wp2_with (first|(go_at_call 4;(with_reducible refine (HW.out _ (bq (by with_reducible repeat' first|assumption|constructor|go_size))).mono ?_);rintro e1 w1 ⟨rfl,hb1⟩;obtain ⟨hc1,hf1,z1_0⟩:=bc1 w hb1 (by go_size);(try simp only [dw] at hc1 hf1))|(go_at_call 5;(with_reducible show Calls _ _ #[bs a, .int .i64 8] _ _);(with_reducible refine (HF1.out _).mono ?_);rintro e2 w2 ⟨rfl,hb2⟩;obtain ⟨hc2,hf2,z2_0⟩:=bc1 w hb2 (by go_size);(try simp only [dw] at hc2 hf2))|(go_at_call 5;(with_reducible show Calls _ _ #[bs b, .int .i64 8] _ _);(with_reducible refine (HF2.out _).mono ?_);rintro e3 w3 ⟨rfl,hb3⟩;obtain ⟨hc3,hf3,z3_0⟩:=bc1 w hb3 (by go_size);(try simp only [dw] at hc3 hf3))|(go_at_call 5;(with_reducible show Calls _ _ #[bs step, .int .i64 8] _ _);(with_reducible refine (HF3.out _).mono ?_);rintro e4 w4 ⟨rfl,hb4⟩;obtain ⟨hc4,hf4,z4_0⟩:=bc1 w hb4 (by go_size);(try simp only [dw] at hc4 hf4))|(go_at_call 6;(with_reducible refine (HR.out _).mono ?_);rintro e5 w5 ⟨rfl,hb5⟩;obtain ⟨hc5,hf5,z5_0⟩:=bc1 w hb5 (by go_size);(try simp only [dw] at hc5 hf5)))
    go_ret
    exact ⟨rfl,(bq (by with_reducible repeat' first|assumption|constructor|go_size))⟩
   ·have HF3:=qh (fun W=>jbV (w:=W) (jbz h3) (by omega) (by omega))
    clear h1 h2 h3 hbad hE
    go_enter Tryz.func3,Tryz.ntmps3
    go_wp2_with (first|(go_at_call 4;(with_reducible refine (HW.out _ (bq (by with_reducible repeat' first|assumption|constructor|go_size))).mono ?_);rintro e1 w1 ⟨rfl,hb1⟩;obtain ⟨hc1,hf1,z1_0⟩:=bc1 w hb1 (by go_size);(try simp only [dw] at hc1 hf1))|(go_at_call 5;(with_reducible show Calls _ _ #[bs a, .int .i64 8] _ _);(with_reducible refine (HF1.out _).mono ?_);rintro e2 w2 ⟨rfl,hb2⟩;obtain ⟨hc2,hf2,z2_0⟩:=bc1 w hb2 (by go_size);(try simp only [dw] at hc2 hf2))|(go_at_call 5;(with_reducible show Calls _ _ #[bs b, .int .i64 8] _ _);(with_reducible refine (HF2.out _).mono ?_);rintro e3 w3 ⟨rfl,hb3⟩;obtain ⟨hc3,hf3,z3_0⟩:=bc1 w hb3 (by go_size);(try simp only [dw] at hc3 hf3))|(go_at_call 5;(with_reducible show Calls _ _ #[bs step, .int .i64 8] _ _);(with_reducible refine (HF3.out _).mono ?_);rintro e4 w4 ⟨rfl,hb4⟩;obtain ⟨hc4,hf4,z4_0⟩:=bc1 w hb4 (by go_size);(try simp only [dw] at hc4 hf4))|(go_at_call 6;(with_reducible refine (HR.out _).mono ?_);rintro e5 w5 ⟨rfl,hb5⟩;obtain ⟨hc5,hf5,z5_0⟩:=bc1 w hb5 (by go_size);(try simp only [dw] at hc5 hf5)))
    go_ret
    exact ⟨rfl,(bq (by with_reducible repeat' first|assumption|constructor|go_size))⟩
  ·have HF2:=qh (fun W=>jbV (w:=W) (jbz h2) (by omega) (by omega))
   clear h1 h2 hbad hE
   go_enter Tryz.func3,Tryz.ntmps3
   go_wp2_with (first|(go_at_call 4;(with_reducible refine (HW.out _ (bq (by with_reducible repeat' first|assumption|constructor|go_size))).mono ?_);rintro e1 w1 ⟨rfl,hb1⟩;obtain ⟨hc1,hf1,z1_0⟩:=bc1 w hb1 (by go_size);(try simp only [dw] at hc1 hf1))|(go_at_call 5;(with_reducible show Calls _ _ #[bs a, .int .i64 8] _ _);(with_reducible refine (HF1.out _).mono ?_);rintro e2 w2 ⟨rfl,hb2⟩;obtain ⟨hc2,hf2,z2_0⟩:=bc1 w hb2 (by go_size);(try simp only [dw] at hc2 hf2))|(go_at_call 5;(with_reducible show Calls _ _ #[bs b, .int .i64 8] _ _);(with_reducible refine (HF2.out _).mono ?_);rintro e3 w3 ⟨rfl,hb3⟩;obtain ⟨hc3,hf3,z3_0⟩:=bc1 w hb3 (by go_size);(try simp only [dw] at hc3 hf3))|(go_at_call 5;(with_reducible show Calls _ _ #[bs step, .int .i64 8] _ _);(with_reducible refine (HF3.out _).mono ?_);rintro e4 w4 ⟨rfl,hb4⟩;obtain ⟨hc4,hf4,z4_0⟩:=bc1 w hb4 (by go_size);(try simp only [dw] at hc4 hf4))|(go_at_call 6;(with_reducible refine (HR.out _).mono ?_);rintro e5 w5 ⟨rfl,hb5⟩;obtain ⟨hc5,hf5,z5_0⟩:=bc1 w hb5 (by go_size);(try simp only [dw] at hc5 hf5)))
   go_ret
   exact ⟨rfl,(bq (by with_reducible repeat' first|assumption|constructor|go_size))⟩
 ·have HF1:=qh (fun W=>jbV (w:=W) (jbz h1) (by omega) (by omega))
  clear h1 hbad hE
  go_enter Tryz.func3,Tryz.ntmps3
  go_wp2_with (first|(go_at_call 4;(with_reducible refine (HW.out _ (bq (by with_reducible repeat' first|assumption|constructor|go_size))).mono ?_);rintro e1 w1 ⟨rfl,hb1⟩;obtain ⟨hc1,hf1,z1_0⟩:=bc1 w hb1 (by go_size);(try simp only [dw] at hc1 hf1))|(go_at_call 5;(with_reducible show Calls _ _ #[bs a, .int .i64 8] _ _);(with_reducible refine (HF1.out _).mono ?_);rintro e2 w2 ⟨rfl,hb2⟩;obtain ⟨hc2,hf2,z2_0⟩:=bc1 w hb2 (by go_size);(try simp only [dw] at hc2 hf2))|(go_at_call 5;(with_reducible show Calls _ _ #[bs b, .int .i64 8] _ _);(with_reducible refine (HF2.out _).mono ?_);rintro e3 w3 ⟨rfl,hb3⟩;obtain ⟨hc3,hf3,z3_0⟩:=bc1 w hb3 (by go_size);(try simp only [dw] at hc3 hf3))|(go_at_call 5;(with_reducible show Calls _ _ #[bs step, .int .i64 8] _ _);(with_reducible refine (HF3.out _).mono ?_);rintro e4 w4 ⟨rfl,hb4⟩;obtain ⟨hc4,hf4,z4_0⟩:=bc1 w hb4 (by go_size);(try simp only [dw] at hc4 hf4))|(go_at_call 6;(with_reducible refine (HR.out _).mono ?_);rintro e5 w5 ⟨rfl,hb5⟩;obtain ⟨hc5,hf5,z5_0⟩:=bc1 w hb5 (by go_size);(try simp only [dw] at hc5 hf5)))
  go_ret
  exact ⟨rfl,(bq (by with_reducible repeat' first|assumption|constructor|go_size))⟩
set_option maxHeartbeats 16000000 in
theorem jje (hE:Env w) (hx:Fw 8 a x) (hy:Fw 8 b y) (hs:Fw 8 step s) (hR:jba kind step=0):
  Calls Tryz.prog 3 #[bs a,bs b,rv kind step] w fun e w'=>e= .returned (.bool true)∧Below w.heap.size w w':=by
 have HW:Hid (∀W,Below w.heap.size w W→Calls Tryz.prog 4 #[] W fun e w'=>e= .returned (.bool true)∧Below W.heap.size W w'):=qh (fun W hb=>jf0 (hE.below hb))
 have HF1:=qh (fun W=>jbV (w:=W) (jcV ⟨x,hx⟩) (by omega) (by omega))
 have HF2:=qh (fun W=>jbV (w:=W) (jcV ⟨y,hy⟩) (by omega) (by omega))
 have HF3:=qh (fun W=>jbV (w:=W) (jcV ⟨s,hs⟩) (by omega) (by omega))
 have la:=hx.len
 have lb:=hy.len
 have ls:=hs.len
 have HR:=qh (fun W=>jgA (w:=W) hR (by omega))
 obtain ⟨hkind,hnum,hpos⟩:=jj3 hR
 have hse:numQ step=s:=(hs.is (by omega)).numQ
 rw [hse] at hnum hpos
 have ix:=hx.is (by omega)
 have iy:=hy.is (by omega)
 have dx:=hx.dz
 have dy:=hy.dz
 have ds:=hs.dz
 obtain ⟨X,hX⟩:∃X,rnd kind x s=X:=⟨_,rfl⟩
 obtain ⟨Y,hY⟩:∃X,rnd kind y s=X:=⟨_,rfl⟩
 have dX:Dz 17 X:=hX ▸ jnJ hpos dx ds
 have dY:Dz 17 Y:=hY ▸ jnJ hpos dy ds
 obtain ⟨gx,ex,nx⟩:=jim dX (by omega) (by omega)
 obtain ⟨gy,ey,ny⟩:=jim dY (by omega) (by omega)
 have sX:StrQ X:=(dX.mono (by omega)).small.str
 have sY:StrQ Y:=(dY.mono (by omega)).small.str
 have HX:=qh (fun W (hb:Below w.heap.size w W)=>jda (hE.below hb) (by omega) (by omega) ix hkind hnum hpos hX sX gx ex)
 have HY:=qh (fun W (hb:Below w.heap.size w W)=>jda (hE.below hb) (by omega) (by omega) iy hkind hnum hpos hY sY gy ey)
 have lX:=jmN dX (by omega)
 have lY:=jmN dY (by omega)
 have HX2:=qh (fun W (hb:Below w.heap.size w W)=>jda (hE.below hb) (by omega) (by omega) nx hkind hnum hpos (show rnd kind X s=X by rw [←hX];exact jlm hpos) sX gx ex)
 have HCX:=qh (fun W=>jdL (w:=W) (jau.2 ⟨X,nx⟩) (by omega))
 have HCY:=qh (fun W=>jdL (w:=W) (jau.2 ⟨Y,ny⟩) (by omega))
 have hs0:s≠0:=by grind
 obtain ⟨N,hN⟩:∃N,jfl kind (x / s)=N:=⟨_,rfl⟩
 have hXN:X / s=((N:Int):Rat):=by rw [←hX,jka hpos,hN]
 have HD1:=qh (fun W=>jnV (w:=W) dX ds (by omega) (by decide) (by omega) (by decide) hs0)
 have dN:=dX.div ds hs0
 have HWH:=qh (fun W=>joY (w:=W) (b:=true) (by rw [hXN];rfl) dN (by omega) (by decide))
 have HSU:=qh (fun W=>jnF (w:=W) dX dx (by omega) (by decide) (by omega) (by decide))
 have dS:=dX.sub dx
 obtain ⟨D,hD⟩:∃D,(X - x) / s=D:=⟨_,rfl⟩
 have hDN:D=((N:Int):Rat) - x / s:=by rw [←hD,←hX,jmV hpos,hN]
 have HD2:=qh (fun W=>hD ▸ jnV (w:=W) dS ds (by omega) (by decide) (by decide) (by decide) hs0)
 have dD:Dz 60 D:=hD ▸ (dS.div ds hs0).mono (by decide)
 have HM1:=qh (fun W (g:Int) (hg:Rq.cmpQ D (-1)=g)=>(show Calls Tryz.prog 12 #[bs (tq D),bs [45,49]] W fun e w'=>e= .returned (.int .i64 g)∧Below W.heap.size W w' from by
  have:=jh6 (w:=W) (m:=1) hg dD ⟨by decide,by decide⟩ (by omega) (by omega) (by omega) (by omega)
  rwa [show tq (-1:Rat)=[45,49] by decide+kernel] at this))
 have HM2:=qh (fun W (g:Int) (hg:Rq.cmpQ D 1=g)=>(show Calls Tryz.prog 12 #[bs (tq D),bs [49]] W fun e w'=>e= .returned (.int .i64 g)∧Below W.heap.size W w' from by
  have:=jh6 (w:=W) (m:=1) hg dD ⟨by decide,by decide⟩ (by omega) (by omega) (by omega) (by omega)
  rwa [show tq (1:Rat)=[49] by decide+kernel] at this))
 have HSG:=qh (fun W (g:Int) (hg:sgn D.num=g)=>jfd (w:=W) hg dD (by omega) (by omega))
 obtain ⟨E,hE2⟩:∃E,(if D < 0 then -D else D)=E:=⟨_,rfl⟩
 have HAB:=qh (fun W=>hE2 ▸ jqI (w:=W) dD (by omega) (by omega))
 have dE:Dz 60 E:=by rw [←hE2];split;exact dD.neg;exact dD
 have HM3:=qh (fun W (g:Int) (hg:Rq.cmpQ E (1/2)=g)=>(show Calls Tryz.prog 12 #[bs (tq E),bs [49,47,50]] W fun e w'=>e= .returned (.int .i64 g)∧Below W.heap.size W w' from by
  have:=jh6 (w:=W) (m:=1) hg dE ⟨by decide+kernel,by decide+kernel⟩ (by omega) (by omega) (by omega) (by omega)
  rwa [show tq (1/2:Rat)=[49,47,50] by decide+kernel] at this))
 have htD:(tq D==[45,49,47,50])=decide (D= -(1/2)):=by
  have e:tq (-(1/2):Rat)=[45,49,47,50]:=by decide+kernel
  by_cases h:D= -(1/2)
  ·rw [decide_eq_true h,h,e];rfl
  ·rw [decide_eq_false h,beq_eq_false_iff_ne]
   intro h2;exact h (jiJ (h2.trans e.symm))
 obtain ⟨g,hg⟩:∃g,Rq.cmpQ x y=g:=⟨_,rfl⟩
 obtain ⟨g2,hg2⟩:∃g,Rq.cmpQ X Y=g:=⟨_,rfl⟩
 have HG:=qh (fun W=>jh6 (w:=W) hg dx dy (by decide) (by decide) (by decide) (by decide))
 have HG2:=qh (fun W=>jh6 (w:=W) hg2 dX dY (by omega) (by omega) (by omega) (by omega))
 have HMO:=qh (fun (h:¬0 < g)=>(show decide (g2≤0)=true from by
  rw [decide_eq_true_iff,←hg2]
  have h1:¬y < x:=fun e=>h (by rw [←hg];exact Rq.cmp_pos.2 e)
  have h2:X≤Y:=by rw [←hX,←hY];exact jnx hpos (Rat.not_lt.1 h1)
  have h3:¬0 < Rq.cmpQ X Y:=fun e=>by have:=Rq.cmp_pos.1 e;grind
  omega))
 have h4:kind=jcG∨kind=kUp∨kind=jaW∨kind=jaC:=by
  unfold jaw at hkind
  by_cases h1:kind=jcG
  ·exact .inl h1
  ·by_cases h2:kind=kUp
   ·exact .inr (.inl h2)
   ·by_cases h3:kind=jaW
    ·exact .inr (.inr (.inl h3))
    ·by_cases h4:kind=jaC
     ·exact .inr (.inr (.inr h4))
     ·rw [if_neg h1,if_neg h2,if_neg h3,if_neg h4] at hkind;cases hkind
 have HK:=qh (And.intro hN (And.intro hDN (And.intro hE2 htD)))
 unfold QP at HD1 HSU HD2 HAB
 rw [←hx.eq] at HSU HG
 rw [←hy.eq] at HG
 rw [←hs.eq] at HD1 HD2
 obtain ⟨TX,hTX⟩:∃T,tq X=T:=⟨_,rfl⟩
 obtain ⟨TY,hTY⟩:∃T,tq Y=T:=⟨_,rfl⟩
 obtain ⟨TN,hTN⟩:∃T,tq (X / s)=T:=⟨_,rfl⟩
 obtain ⟨TS,hTS⟩:∃T,tq (X - x)=T:=⟨_,rfl⟩
 obtain ⟨TD,hTD⟩:∃T,tq D=T:=⟨_,rfl⟩
 obtain ⟨TE,hTE⟩:∃T,tq E=T:=⟨_,rfl⟩
 rw [hTX] at HX HX2 HCX HD1 HSU HG2
 rw [hTY] at HY HCY HG2
 rw [hTN] at HD1 HWH
 rw [hTS] at HSU HD2
 rw [hTD] at HD2 HM1 HM2 HSG HAB HK
 rw [hTE] at HAB HM3
 clear hE hx hy hs hR la lb ls hkind hnum hpos hse ix iy dx dy ds hX hY dX dY gx ex nx gy ey ny sX sY lX lY hs0 hN hXN dN dS hD hDN dD hE2 dE htD hg hg2 hTX hTY hTN hTS hTD hTE
 go_enter Tryz.func3,Tryz.ntmps3
 go_upto_region 10 with (first|(go_at_call 4;(with_reducible refine (HW.out _ (bq (by with_reducible repeat' first|assumption|constructor|go_size))).mono ?_);rintro e1 w1 ⟨rfl,hb1⟩;obtain ⟨hc1,hf1,z1_0⟩:=bc1 w hb1 (by go_size);(try simp only [dw] at hc1 hf1))|(go_at_call 5;(with_reducible show Calls _ _ #[bs a, .int .i64 8] _ _);(with_reducible refine (HF1.out _).mono ?_);rintro e2 w2 ⟨rfl,hb2⟩;obtain ⟨hc2,hf2,z2_0⟩:=bc1 w hb2 (by go_size);(try simp only [dw] at hc2 hf2))|(go_at_call 5;(with_reducible show Calls _ _ #[bs b, .int .i64 8] _ _);(with_reducible refine (HF2.out _).mono ?_);rintro e3 w3 ⟨rfl,hb3⟩;obtain ⟨hc3,hf3,z3_0⟩:=bc1 w hb3 (by go_size);(try simp only [dw] at hc3 hf3))|(go_at_call 5;(with_reducible show Calls _ _ #[bs step, .int .i64 8] _ _);(with_reducible refine (HF3.out _).mono ?_);rintro e4 w4 ⟨rfl,hb4⟩;obtain ⟨hc4,hf4,z4_0⟩:=bc1 w hb4 (by go_size);(try simp only [dw] at hc4 hf4))|(go_at_call 6;(with_reducible refine (HR.out _).mono ?_);rintro e5 w5 ⟨rfl,hb5⟩;obtain ⟨hc5,hf5,z5_0⟩:=bc1 w hb5 (by go_size);(try simp only [dw] at hc5 hf5))|(go_at_call 7;(with_reducible show Calls _ _ #[bs a,rv kind step] _ _);(with_reducible refine (HX.out _ (bq (by with_reducible repeat' first|assumption|constructor|go_size))).mono ?_);rintro e6 w6 ⟨rfl,hb6⟩;obtain ⟨hc6,hf6,z6_0⟩:=bc1 w hb6 (by go_size);(try simp only [dw] at hc6 hf6))|(go_at_call 7;(with_reducible show Calls _ _ #[bs b,rv kind step] _ _);(with_reducible refine (HY.out _ (bq (by with_reducible repeat' first|assumption|constructor|go_size))).mono ?_);rintro e7 w7 ⟨rfl,hb7⟩;obtain ⟨hc7,hf7,z7_0⟩:=bc1 w hb7 (by go_size);(try simp only [dw] at hc7 hf7))|(go_at_call 8;(with_reducible show Calls _ _ #[bs TX] _ _);(with_reducible refine (HCX.out _).mono ?_);rintro e8 w8 ⟨rfl,hb8⟩;obtain ⟨hc8,hf8,z8_0⟩:=bc1 w hb8 (by go_size);(try simp only [dw] at hc8 hf8))|(go_at_call 8;(with_reducible show Calls _ _ #[bs TY] _ _);(with_reducible refine (HCY.out _).mono ?_);rintro e9 w9 ⟨rfl,hb9⟩;obtain ⟨hc9,hf9,z9_0⟩:=bc1 w hb9 (by go_size);(try simp only [dw] at hc9 hf9))|(go_at_call 7;(with_reducible show Calls _ _ #[bs TX,rv kind step] _ _);(with_reducible refine (HX2.out _ (bq (by with_reducible repeat' first|assumption|constructor|go_size))).mono ?_);rintro e10 w10 ⟨rfl,hb10⟩;obtain ⟨hc10,hf10,z10_0⟩:=bc1 w hb10 (by go_size);(try simp only [dw] at hc10 hf10))|(go_at_call 10;(with_reducible refine (HD1.out _).mono ?_);rintro e11 w11 ⟨rfl,hb11⟩;obtain ⟨hc11,hf11,z11_0⟩:=bc1 w hb11 (by go_size);(try simp only [dw] at hc11 hf11))|(go_at_call 9;(with_reducible refine (HWH.out _).mono ?_);rintro e12 w12 ⟨rfl,hb12⟩;obtain ⟨hc12,hf12,z12_0⟩:=bc1 w hb12 (by go_size);(try simp only [dw] at hc12 hf12)))
 have hW0:Below (w.alloc (.cells #[bs kind,bs step] 24)).heap.size (w.alloc (.cells #[bs kind,bs step] 24)) w12:=(bq (by with_reducible repeat' first|assumption|constructor|go_size))
 have HBX:=(Blk.new w 24 #[bs kind,bs step]).below hW0
 obtain ⟨k0,k1, -⟩:=jah HBX
 have z0:=HBX.lt
 have bW:Below w.heap.size w w12:=ja3 (ja7 (Below.refl _ _) _) hW0
 clear hb1 hb2 hb3 hb4 hb5 hb6 hb7 hb8 hb9 hb10 hb11 hb12 hc1 hc2 hc3 hc4 hc5 hc6 hc7 hc8 hc9 hc10 hc11 hc12 hf1 hf2 hf3 hf4 hf5 hf6 hf7 hf8 hf9 hf10 hf11 hf12 z1_0 z2_0 z3_0 z4_0 z5_0 z6_0 z7_0 z8_0 z9_0 z10_0 z11_0 z12_0 hW0 HW HF1 HF2 HF3 HR HX HY HX2 HCX HCY HD1 HWH
 refine ja4 (fun w'=>Below w12.heap.size w12 w') [] (by kernel_rfl) ?_
 refine tb 0 (bs TX) [2] rfl (by kernel_rfl) (fun _ _ _ h=>h) (by rfl) (by intros;go_simp) bq0 ?_
 simp only [ppq]
 refine tb 1 (bs a) [2] rfl (by kernel_rfl) (fun _ _ _ h=>h) (by rfl) (by intros;go_simp) bq0 ?_
 simp only [ppq]
 refine tb 3 (.pointer (some ⟨w.heap.size,1,none⟩)) [4] rfl (by kernel_rfl) (fun _ _ _ h=>h) (by rfl) (by intros;go_simp) bq0 ?_
 simp only [ppq]
 refine tb 4 (bs step) [5] rfl (by kernel_rfl) (fun _ _ _ h=>h) (by rfl) (by intros;go_simp) bq0 ?_
 simp only [ppq]
 refine rd1 2 (by kernel_rfl) rfl (fun K hK=> ?_)
 go_simp
 go_wp2_with (go_at_call 11;(with_reducible refine (HSU.out _).mono ?_);rintro e13 w13 ⟨rfl,hb13⟩;obtain ⟨hc13,hf13⟩:=ja0 hb13;(try simp only [dw] at hc13 hf13))
 have sS13:=qh (bst bq0 hb13)
 refine hK.out _ _ (fun _=>sS13.out) ?_
 clear hK K
 refine rd1 5 (by kernel_rfl) rfl (fun K hK=> ?_)
 go_simp
 go_wp2_with (go_at_call 10;(with_reducible refine (HD2.out _).mono ?_);rintro e14 w14 ⟨rfl,hb14⟩;obtain ⟨hc14,hf14⟩:=ja0 hb14;(try simp only [dw] at hc14 hf14))
 have sS14:=qh (bst sS13.out hb14)
 refine hK.out _ _ (fun _=>sS14.out) ?_
 clear hK K
 refine rd1 6 (by kernel_rfl) rfl (fun K hK=> ?_)
 go_simp
 refine hK.out _ _ (fun _=>(bq (by with_reducible repeat' first|assumption|constructor|go_size))) ?_
 clear hK K
 refine ja2 (by kernel_rfl) ?_ _
 have HBY:=(HBX.below (bD (Below.refl _ _))).below (ja3 hb13 hb14)
 obtain ⟨k2,k3, -⟩:=jah HBY
 have z1:=HBY.lt
 have bX:Below w.heap.size w w14:=ja3 (bD bW) (ja3 hb13 hb14)
 obtain ⟨hN,hDN,hE2,htD⟩:=HK.out
 clear HBX HBY k0 k1 z0 bW hb13 hb14 hc13 hc14 hf13 hf14 sS13 sS14 HSU HD2 HK
 rcases h4 with rfl|rfl|rfl|rfl
 ·have hd:=jmJ (y:=x / s)
  rw [hN,←hDN] at hd
  obtain ⟨p1,hp1⟩:∃p,Rq.cmpQ D (-1)=p:=⟨_,rfl⟩
  obtain ⟨p2,hp2⟩:∃p,sgn D.num=p:=⟨_,rfl⟩
  have q1:decide (p1≤0)=false:=by rw [decide_eq_false_iff_not,←hp1];have:=Rq.cmp_pos.2 hd.1;omega
  have q2:decide (0 < p2)=false:=by
   rw [decide_eq_false_iff_not,←hp2]
   have:¬0 < D.num:=fun e=>by have h:=(Rat.lt_iff 0 D).2 (by simpa using e);grind
   unfold sgn;split <;> (try split) <;> omega
  have r0:jcG=[100,111,119,110]:=rfl
  rw [r0] at k2
  have H1:=qh (fun W=>HM1.out W p1 hp1)
  have H2:=qh (fun W=>HSG.out W p2 hp2)
  clear hN hDN hE2 htD hd hp1 hp2 HM1 HM2 HM3 HSG HAB r0
  go_upto_region 20 with (first|(go_at_call 12;(with_reducible refine (H1.out _).mono ?_);rintro e15 w15 ⟨rfl,hb15⟩;obtain ⟨hc15,hf15⟩:=ja0 hb15;(try simp only [dw] at hc15 hf15))|(go_at_call 13;(with_reducible refine (H2.out _).mono ?_);rintro e16 w16 ⟨rfl,hb16⟩;obtain ⟨hc16,hf16⟩:=ja0 hb16;(try simp only [dw] at hc16 hf16)))
  by_cases hg:0 < g
  ·have q8:decide (0 < g)=true:=by simpa using hg
   clear hg
   go_wp2_with (first|(go_at_call 12;(with_reducible show Calls _ _ #[bs a,bs b] _ _);(with_reducible refine (HG.out _).mono ?_);rintro e21 w21 ⟨rfl,hb21⟩;obtain ⟨hc21,hf21⟩:=ja0 hb21;(try simp only [dw] at hc21 hf21)))
   go_ret
   exact ⟨rfl,(bq (by with_reducible repeat' first|assumption|constructor|go_size))⟩
  ·have q8:decide (0 < g)=false:=by simpa using hg
   have q9:=HMO.out (by omega)
   clear hg
   go_wp2_with (first|(go_at_call 12;(with_reducible show Calls _ _ #[bs a,bs b] _ _);(with_reducible refine (HG.out _).mono ?_);rintro e21 w21 ⟨rfl,hb21⟩;obtain ⟨hc21,hf21⟩:=ja0 hb21;(try simp only [dw] at hc21 hf21))|(go_at_call 12;(with_reducible show Calls _ _ #[bs TX,bs TY] _ _);(with_reducible refine (HG2.out _).mono ?_);rintro e22 w22 ⟨rfl,hb22⟩;obtain ⟨hc22,hf22⟩:=ja0 hb22;(try simp only [dw] at hc22 hf22)))
   go_ret
   exact ⟨rfl,(bq (by with_reducible repeat' first|assumption|constructor|go_size))⟩
 ·have hd:=jpo (y:=x / s)
  rw [hN,←hDN] at hd
  obtain ⟨p1,hp1⟩:∃p,Rq.cmpQ D 1=p:=⟨_,rfl⟩
  obtain ⟨p2,hp2⟩:∃p,sgn D.num=p:=⟨_,rfl⟩
  have q1:decide (0≤p1)=false:=by rw [decide_eq_false_iff_not,←hp1];have:=Rq.cmp_neg.2 hd.2;omega
  have q2:decide (p2 < 0)=false:=by
   rw [decide_eq_false_iff_not,←hp2]
   have:¬D.num < 0:=fun e=>by have h:=(Rat.lt_iff D 0).2 (by simpa using e);grind
   unfold sgn;split <;> (try split) <;> omega
  have r0:kUp=[117,112]:=rfl
  rw [r0] at k2
  have H1:=qh (fun W=>HM2.out W p1 hp1)
  have H2:=qh (fun W=>HSG.out W p2 hp2)
  clear hN hDN hE2 htD hd hp1 hp2 HM1 HM2 HM3 HSG HAB r0
  go_upto_region 20 with (first|(go_at_call 12;(with_reducible refine (H1.out _).mono ?_);rintro e15 w15 ⟨rfl,hb15⟩;obtain ⟨hc15,hf15⟩:=ja0 hb15;(try simp only [dw] at hc15 hf15))|(go_at_call 13;(with_reducible refine (H2.out _).mono ?_);rintro e16 w16 ⟨rfl,hb16⟩;obtain ⟨hc16,hf16⟩:=ja0 hb16;(try simp only [dw] at hc16 hf16)))
  by_cases hg:0 < g
  ·have q8:decide (0 < g)=true:=by simpa using hg
   clear hg
   go_wp2_with (first|(go_at_call 12;(with_reducible show Calls _ _ #[bs a,bs b] _ _);(with_reducible refine (HG.out _).mono ?_);rintro e21 w21 ⟨rfl,hb21⟩;obtain ⟨hc21,hf21⟩:=ja0 hb21;(try simp only [dw] at hc21 hf21)))
   go_ret
   exact ⟨rfl,(bq (by with_reducible repeat' first|assumption|constructor|go_size))⟩
  ·have q8:decide (0 < g)=false:=by simpa using hg
   have q9:=HMO.out (by omega)
   clear hg
   go_wp2_with (first|(go_at_call 12;(with_reducible show Calls _ _ #[bs a,bs b] _ _);(with_reducible refine (HG.out _).mono ?_);rintro e21 w21 ⟨rfl,hb21⟩;obtain ⟨hc21,hf21⟩:=ja0 hb21;(try simp only [dw] at hc21 hf21))|(go_at_call 12;(with_reducible show Calls _ _ #[bs TX,bs TY] _ _);(with_reducible refine (HG2.out _).mono ?_);rintro e22 w22 ⟨rfl,hb22⟩;obtain ⟨hc22,hf22⟩:=ja0 hb22;(try simp only [dw] at hc22 hf22)))
   go_ret
   exact ⟨rfl,(bq (by with_reducible repeat' first|assumption|constructor|go_size))⟩
 ·have hd:=jiC (l:=jaW) (y:=x / s) (.inl rfl)
  have hne:=jo0 (y:=x / s)
  rw [hN,←hDN] at hd hne
  obtain ⟨p1,hp1⟩:∃p,Rq.cmpQ E (1/2)=p:=⟨_,rfl⟩
  have q1:decide (0 < p1)=false:=by
   rw [decide_eq_false_iff_not,←hp1]
   intro h
   have:=Rq.cmp_pos.1 h
   rw [←hE2] at this
   split at this <;> grind
  rw [decide_eq_false hne] at htD
  have r0:jaW=[104,97,108,102,45,117,112]:=rfl
  rw [r0] at k2
  have H1:=qh (fun W=>HM3.out W p1 hp1)
  clear hN hDN hE2 hd hp1 HM1 HM2 HM3 HSG r0 hne
  go_upto_region 20 with (first|(go_at_call 14;(with_reducible refine (HAB.out _).mono ?_);rintro e15 w15 ⟨rfl,hb15⟩;obtain ⟨hc15,hf15,z15_0⟩:=bc1 w hb15 (by go_size);(try simp only [dw] at hc15 hf15))|(go_at_call 12;(with_reducible refine (H1.out _).mono ?_);rintro e16 w16 ⟨rfl,hb16⟩;obtain ⟨hc16,hf16,z16_0⟩:=bc1 w hb16 (by go_size);(try simp only [dw] at hc16 hf16)))
  by_cases hg:0 < g
  ·have q8:decide (0 < g)=true:=by simpa using hg
   clear hg
   go_wp2_with (first|(go_at_call 12;(with_reducible show Calls _ _ #[bs a,bs b] _ _);(with_reducible refine (HG.out _).mono ?_);rintro e21 w21 ⟨rfl,hb21⟩;obtain ⟨hc21,hf21⟩:=ja0 hb21;(try simp only [dw] at hc21 hf21)))
   go_ret
   exact ⟨rfl,(bq (by with_reducible repeat' first|assumption|constructor|go_size))⟩
  ·have q8:decide (0 < g)=false:=by simpa using hg
   have q9:=HMO.out (by omega)
   clear hg
   go_wp2_with (first|(go_at_call 12;(with_reducible show Calls _ _ #[bs a,bs b] _ _);(with_reducible refine (HG.out _).mono ?_);rintro e21 w21 ⟨rfl,hb21⟩;obtain ⟨hc21,hf21⟩:=ja0 hb21;(try simp only [dw] at hc21 hf21))|(go_at_call 12;(with_reducible show Calls _ _ #[bs TX,bs TY] _ _);(with_reducible refine (HG2.out _).mono ?_);rintro e22 w22 ⟨rfl,hb22⟩;obtain ⟨hc22,hf22⟩:=ja0 hb22;(try simp only [dw] at hc22 hf22)))
   go_ret
   exact ⟨rfl,(bq (by with_reducible repeat' first|assumption|constructor|go_size))⟩
 ·have hd:=jiC (l:=jaC) (y:=x / s) (.inr rfl)
  rw [hN,←hDN] at hd
  obtain ⟨p1,hp1⟩:∃p,Rq.cmpQ E (1/2)=p:=⟨_,rfl⟩
  have q1:decide (0 < p1)=false:=by
   rw [decide_eq_false_iff_not,←hp1]
   intro h
   have:=Rq.cmp_pos.1 h
   rw [←hE2] at this
   split at this <;> grind
  have r0:jaC=[104,97,108,102,45,101,118,101,110]:=rfl
  rw [r0] at k2
  have H1:=qh (fun W=>HM3.out W p1 hp1)
  clear hN hDN hE2 htD hd hp1 HM1 HM2 HM3 HSG r0
  go_upto_region 20 with (first|(go_at_call 14;(with_reducible refine (HAB.out _).mono ?_);rintro e15 w15 ⟨rfl,hb15⟩;obtain ⟨hc15,hf15,z15_0⟩:=bc1 w hb15 (by go_size);(try simp only [dw] at hc15 hf15))|(go_at_call 12;(with_reducible refine (H1.out _).mono ?_);rintro e16 w16 ⟨rfl,hb16⟩;obtain ⟨hc16,hf16,z16_0⟩:=bc1 w hb16 (by go_size);(try simp only [dw] at hc16 hf16)))
  by_cases hg:0 < g
  ·have q8:decide (0 < g)=true:=by simpa using hg
   clear hg
   go_wp2_with (first|(go_at_call 12;(with_reducible show Calls _ _ #[bs a,bs b] _ _);(with_reducible refine (HG.out _).mono ?_);rintro e21 w21 ⟨rfl,hb21⟩;obtain ⟨hc21,hf21⟩:=ja0 hb21;(try simp only [dw] at hc21 hf21)))
   go_ret
   exact ⟨rfl,(bq (by with_reducible repeat' first|assumption|constructor|go_size))⟩
  ·have q8:decide (0 < g)=false:=by simpa using hg
   have q9:=HMO.out (by omega)
   clear hg
   go_wp2_with (first|(go_at_call 12;(with_reducible show Calls _ _ #[bs a,bs b] _ _);(with_reducible refine (HG.out _).mono ?_);rintro e21 w21 ⟨rfl,hb21⟩;obtain ⟨hc21,hf21⟩:=ja0 hb21;(try simp only [dw] at hc21 hf21))|(go_at_call 12;(with_reducible show Calls _ _ #[bs TX,bs TY] _ _);(with_reducible refine (HG2.out _).mono ?_);rintro e22 w22 ⟨rfl,hb22⟩;obtain ⟨hc22,hf22⟩:=ja0 hb22;(try simp only [dw] at hc22 hf22)))
   go_ret
   exact ⟨rfl,(bq (by with_reducible repeat' first|assumption|constructor|go_size))⟩
theorem jgr (hE:Env w):Calls Tryz.prog 3 #[bs a,bs b,rv kind step] w fun e w'=>e= .returned (.bool true)∧Below w.heap.size w w':=by
 by_cases h:(∃x,Fw 8 a x)∧(∃x,Fw 8 b x)∧(∃x,Fw 8 step x)∧jba kind step=0
 ·obtain ⟨⟨x,hx⟩,⟨y,hy⟩,⟨s,hs⟩,hR⟩:=h
  exact jje hE hx hy hs hR
 ·exact jhE hE h
end
end Go.Proofs.YthciialjockjmaaGreatDoor
