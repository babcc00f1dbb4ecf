/- Parts. -/
import Derived.Test.YtfagcpcikjlboaaGreatDoorZhG
set_option linter.all false
set_option maxRecDepth 100000
set_option maxHeartbeats 8000000
namespace Go.Proofs.YtfagcpcikjlboaaGreatDoor
open Go Go.RowKit Go.Proofs.Tryz

def jy2 (x y:Rat) (w:World) (e:Ending) (w':World):Prop:=
 ∃s A n c t B m d u C i j v D o l,e= .returned (.agg #[.int .i64 s, .slice A n c, .int .i64 t, .slice B m d, .int .i64 u, .slice C i j, .int .i64 v, .slice D o l])∧(RepF w' s A n c t B m d x∧RepF w' u C i j v D o l y)∧Below w.heap.size w w'
theorem jwC {x y:Rat} {s t u v:Int} {A B C D:Option Addr} {n c m d i j o l:Nat} {w w':World} {z:Value} (hv:z= .agg #[.int .i64 s, .slice A n c, .int .i64 t, .slice B m d, .int .i64 u, .slice C i j, .int .i64 v, .slice D o l]) (h:RepF w' s A n c t B m d x) (h2:RepF w' u C i j v D o l y) (hb:Below w.heap.size w w'):jy2 x y w (.returned z) w':=
 ⟨s,A,n,c,t,B,m,d,u,C,i,j,v,D,o,l,by rw [hv],⟨h,h2⟩,hb⟩
section
variable {w:World} {s1 s2 s3 s4 t1 t2 t3 t4:Int} {A1 A2 A3 A4 B1 B2 B3 B4:Option Addr} {n1 n2 n3 n4 c1 c2 c3 c4 m1 m2 m3 m4 d1 d2 d3 d4:Nat} {x1 x2 x3 x4 y1 y2:Rat}
set_option maxHeartbeats 16000000 in
theorem jxB {p q:Nat} (h1:RepF w s1 A1 n1 c1 t1 B1 m1 d1 x1) (h2:RepF w s2 A2 n2 c2 t2 B2 m2 d2 x2) (h3:RepF w s3 A3 n3 c3 t3 B3 m3 d3 x3) (h4:RepF w s4 A4 n4 c4 t4 B4 m4 d4 x4) (z1:Sz p x1) (z2:Sz p x2) (z3:Sz q x3) (z4:Sz q x4) (hpq:p+q+1 < 100000) (hy1:x1+x3=y1) (hy2:x2+x4=y2):
  Calls prog 70 #[.agg #[.int .i64 s1, .slice A1 n1 c1, .int .i64 t1, .slice B1 m1 d1, .int .i64 s2, .slice A2 n2 c2, .int .i64 t2, .slice B2 m2 d2], .agg #[.int .i64 s3, .slice A3 n3 c3, .int .i64 t3, .slice B3 m3 d3, .int .i64 s4, .slice A4 n4 c4, .int .i64 t4, .slice B4 m4 d4]] w (jy2 y1 y2 w):=by
 have H1:=qh h1;have H2:=qh h2;have H3:=qh h3;have H4:=qh h4;have Z1:=qh z1;have Z2:=qh z2;have Z3:=qh z3;have Z4:=qh z4;have HY1:=qh hy1;have HY2:=qh hy2;have HPQ:=qh hpq;clear h1 h2 h3 h4 z1 z2 z3 z4 hpq hy1 hy2;go_enter func70,ntmps70;go_upto_region 1 with (fail)
 obtain ⟨W,hW⟩:∃W,(((w.alloc (.cells #[.int .i64 s1, .slice A1 n1 c1, .int .i64 t1, .slice B1 m1 d1, .int .i64 s2, .slice A2 n2 c2, .int .i64 t2, .slice B2 m2 d2] 72)).alloc (.cells #[.int .i64 s3, .slice A3 n3 c3, .int .i64 t3, .slice B3 m3 d3, .int .i64 s4, .slice A4 n4 c4, .int .i64 t4, .slice B4 m4 d4] 72)).alloc (.cells #[.int .i64 0, .slice none 0 0, .int .i64 0, .slice none 0 0, .int .i64 0, .slice none 0 0, .int .i64 0, .slice none 0 0] 72))=W:=⟨_,rfl⟩;have bW:Below w.heap.size w W:=by rw [←hW];exact bi
 have p0:W.cell? ⟨w.heap.size,0,none⟩=some (.int .i64 s1):=by rw [←hW];simp [go_sem]
 have p1:W.cell? ⟨w.heap.size,1,none⟩=some (.slice A1 n1 c1):=by rw [←hW];simp [go_sem]
 have p2:W.cell? ⟨w.heap.size,2,none⟩=some (.int .i64 t1):=by rw [←hW];simp [go_sem]
 have p3:W.cell? ⟨w.heap.size,3,none⟩=some (.slice B1 m1 d1):=by rw [←hW];simp [go_sem]
 have q0:W.cell? ⟨w.heap.size,4,none⟩=some (.int .i64 s2):=by rw [←hW];simp [go_sem]
 have q1:W.cell? ⟨w.heap.size,5,none⟩=some (.slice A2 n2 c2):=by rw [←hW];simp [go_sem]
 have q2:W.cell? ⟨w.heap.size,6,none⟩=some (.int .i64 t2):=by rw [←hW];simp [go_sem]
 have q3:W.cell? ⟨w.heap.size,7,none⟩=some (.slice B2 m2 d2):=by rw [←hW];simp [go_sem]
 have u0:W.cell? ⟨w.heap.size+1,0,none⟩=some (.int .i64 s3):=by rw [←hW];simp [go_sem]
 have u1:W.cell? ⟨w.heap.size+1,1,none⟩=some (.slice A3 n3 c3):=by rw [←hW];simp [go_sem]
 have u2:W.cell? ⟨w.heap.size+1,2,none⟩=some (.int .i64 t3):=by rw [←hW];simp [go_sem]
 have u3:W.cell? ⟨w.heap.size+1,3,none⟩=some (.slice B3 m3 d3):=by rw [←hW];simp [go_sem]
 have v0:W.cell? ⟨w.heap.size+1,4,none⟩=some (.int .i64 s4):=by rw [←hW];simp [go_sem]
 have v1:W.cell? ⟨w.heap.size+1,5,none⟩=some (.slice A4 n4 c4):=by rw [←hW];simp [go_sem]
 have v2:W.cell? ⟨w.heap.size+1,6,none⟩=some (.int .i64 t4):=by rw [←hW];simp [go_sem]
 have v3:W.cell? ⟨w.heap.size+1,7,none⟩=some (.slice B4 m4 d4):=by rw [←hW];simp [go_sem]
 have r0:W.cell? ⟨w.heap.size+2,0,none⟩=some (.int .i64 0):=by rw [←hW];simp [go_sem]
 have r1:W.cell? ⟨w.heap.size+2,1,none⟩=some (.slice none 0 0):=by rw [←hW];simp [go_sem]
 have r2:W.cell? ⟨w.heap.size+2,2,none⟩=some (.int .i64 0):=by rw [←hW];simp [go_sem]
 have r3:W.cell? ⟨w.heap.size+2,3,none⟩=some (.slice none 0 0):=by rw [←hW];simp [go_sem]
 have r4:W.cell? ⟨w.heap.size+2,4,none⟩=some (.int .i64 0):=by rw [←hW];simp [go_sem]
 have r5:W.cell? ⟨w.heap.size+2,5,none⟩=some (.slice none 0 0):=by rw [←hW];simp [go_sem]
 have r6:W.cell? ⟨w.heap.size+2,6,none⟩=some (.int .i64 0):=by rw [←hW];simp [go_sem]
 have r7:W.cell? ⟨w.heap.size+2,7,none⟩=some (.slice none 0 0):=by rw [←hW];simp [go_sem]
 have rf0:W.frozen? ⟨w.heap.size+2,0,none⟩=false:=by rw [←hW];simp [go_sem]
 have rf1:W.frozen? ⟨w.heap.size+2,1,none⟩=false:=by rw [←hW];simp [go_sem]
 have rf2:W.frozen? ⟨w.heap.size+2,2,none⟩=false:=by rw [←hW];simp [go_sem]
 have rf3:W.frozen? ⟨w.heap.size+2,3,none⟩=false:=by rw [←hW];simp [go_sem]
 have rf4:W.frozen? ⟨w.heap.size+2,4,none⟩=false:=by rw [←hW];simp [go_sem]
 have rf5:W.frozen? ⟨w.heap.size+2,5,none⟩=false:=by rw [←hW];simp [go_sem]
 have rf6:W.frozen? ⟨w.heap.size+2,6,none⟩=false:=by rw [←hW];simp [go_sem]
 have rf7:W.frozen? ⟨w.heap.size+2,7,none⟩=false:=by rw [←hW];simp [go_sem]
 have zW0:w.heap.size < W.heap.size:=by rw [←hW];first|(simp;done)|(simp;omega)
 have zW1:w.heap.size+1 < W.heap.size:=by rw [←hW];first|(simp;done)|(simp;omega)
 have zW2:w.heap.size+2 < W.heap.size:=by rw [←hW];first|(simp;done)|(simp;omega)
 simp only [show w.heap.size+1+1=w.heap.size+2 from rfl];rw [hW];obtain ⟨g,hg⟩:∃b,w.heap.size=b:=⟨_,rfl⟩;rw [hg] at p0 p1 p2 p3 q0 q1 q2 q3 u0 u1 u2 u3 v0 v1 v2 v3 r0 r1 r2 r3 r4 r5 r6 r7 rf0 rf1 rf2 rf3 rf4 rf5 rf6 rf7 zW0 zW1 zW2 ⊢;have HB:=qh bW;have HG:=qh hg;have K1:=qh (fun V (h:Below W.heap.size W V)=>RepF.below H1.o (ja0 bW h));have K2:=qh (fun V (h:Below W.heap.size W V)=>RepF.below H2.o (ja0 bW h));have K3:=qh (fun V (h:Below W.heap.size W V)=>RepF.below H3.o (ja0 bW h));have K4:=qh (fun V (h:Below W.heap.size W V)=>RepF.below H4.o (ja0 bW h));clear hW bW hg;refine ja1 (fun w'=>Below W.heap.size W w') [11] (by kernel_rfl) ?_;refine tl [(0,[], .pointer (some ⟨g,0,none⟩)),(1,[],fv s1 A1 n1 c1 t1 B1 m1 d1),(2,[], .pointer (some ⟨g+1,0,none⟩)),(3,[],fv s3 A3 n3 c3 t3 B3 m3 d3),(5,[], .pointer (some ⟨g,4,none⟩)),(6,[],fv s2 A2 n2 c2 t2 B2 m2 d2),(7,[], .pointer (some ⟨g+1,4,none⟩)),(8,[],fv s4 A4 n4 c4 t4 B4 m4 d4)] [_,_,_,_,_,_,_,_] rfl (by kernel_rfl) pk5 (by intros;simp only [tyq,ppq];go_simp) bq0 ?_;simp only [tlq,ppq];refine rd1 4 (by kernel_rfl) rfl (fun K hK=> ?_);go_simp;go_wp2_with (go_at_call 114;(with_reducible refine mf0 (jo7 p q HY1.o (K1.o _ bi) (K3.o _ bi) Z1.o Z3.o HPQ.o) fun w11 s11 A11 n11 c11 t11 B11 m11 d11 hr11 hq11 hb11 hc11 hf11 _=> ?_))
 have sS11:=qh (bst bq0 hb11);refine hK.out _ _ (fun _=>sS11.o) ?_;clear hK K;refine rd1 9 (by kernel_rfl) rfl (fun K hK=> ?_);go_simp;go_wp2_with (go_at_call 114;(with_reducible refine mf0 (jo7 p q HY2.o (K2.o _ bi) (K4.o _ bi) Z2.o Z4.o HPQ.o) fun w12 s12 A12 n12 c12 t12 B12 m12 d12 hr12 hq12 hb12 hc12 hf12 _=> ?_))
 have sS12:=qh (bst sS11.o hb12);refine hK.out _ _ (fun _=>sS12.o) ?_;clear hK K;refine rd1 10 (by kernel_rfl) rfl (fun K hK=> ?_);go_simp;refine hK.out _ _ (fun _=>bi) ?_;clear hK K;have b12:RowKit.Below W.heap.size W w12:=bi;replace r0:=ja9 b12 r0;replace r1:=ja9 b12 r1;replace r2:=ja9 b12 r2;replace r3:=ja9 b12 r3;replace r4:=ja9 b12 r4;replace r5:=ja9 b12 r5;replace r6:=ja9 b12 r6;replace r7:=ja9 b12 r7;replace rf0:=(b12.frozen (p:=⟨g+2,0,none⟩) zW2).trans rf0;replace rf1:=(b12.frozen (p:=⟨g+2,1,none⟩) zW2).trans rf1;replace rf2:=(b12.frozen (p:=⟨g+2,2,none⟩) zW2).trans rf2;replace rf3:=(b12.frozen (p:=⟨g+2,3,none⟩) zW2).trans rf3;replace rf4:=(b12.frozen (p:=⟨g+2,4,none⟩) zW2).trans rf4;replace rf5:=(b12.frozen (p:=⟨g+2,5,none⟩) zW2).trans rf5;replace rf6:=(b12.frozen (p:=⟨g+2,6,none⟩) zW2).trans rf6;replace rf7:=(b12.frozen (p:=⟨g+2,7,none⟩) zW2).trans rf7;clear p0 p1 p2 p3 q0 q1 q2 q3 u0 u1 u2 u3 v0 v1 v2 v3 hc11 hc12 hf11 hf12;refine rd1 11 (by kernel_rfl) rfl (fun K hK=> ?_);go_simp;refine hK.out _ _ (fun h=>(h (by decide)).elim) ?_;clear hK K;refine ja2 (by kernel_rfl) ?_ _;go_wp2;have hp:w.heap.size≤g+2:=by rw [HG.o];exact Nat.le_add_right _ _
 have _:Bz w w12:=⟨ja0 HB.o b12⟩;have _:Sx w.heap.size (g+2):=⟨hp⟩;exact bodyPost_ret (v:= .agg #[.int .i64 s11, .slice A11 n11 c11, .int .i64 t11, .slice B11 m11 d11, .int .i64 s12, .slice A12 n12 c12, .int .i64 t12, .slice B12 m12 d12]) (by simp [results,results70,go_sem,r0,r1,r2,r3,r4,r5,r6,r7]) rfl (jwC rfl (by constructor <;> (with_reducible repeat first|assumption|apply rZ|refine rP ?_ rfl (by simp [go_sem,r0,r1,r2,r3,r4,r5,r6,r7]))) (by constructor <;> (with_reducible repeat first|assumption|apply rZ|refine rP ?_ rfl (by simp [go_sem,r0,r1,r2,r3,r4,r5,r6,r7]))) bi)
set_option maxHeartbeats 16000000 in
theorem jxt {p q:Nat} (h1:RepF w s1 A1 n1 c1 t1 B1 m1 d1 x1) (h2:RepF w s2 A2 n2 c2 t2 B2 m2 d2 x2) (h3:RepF w s3 A3 n3 c3 t3 B3 m3 d3 x3) (z1:Sz p x1) (z2:Sz p x2) (z3:Sz q x3) (hpq:p+q < 100000) (hy1:jws x1 x3=y1) (hy2:jws x2 x3=y2):
  Calls prog 71 #[.agg #[.int .i64 s1, .slice A1 n1 c1, .int .i64 t1, .slice B1 m1 d1, .int .i64 s2, .slice A2 n2 c2, .int .i64 t2, .slice B2 m2 d2],fv s3 A3 n3 c3 t3 B3 m3 d3] w (jy2 y1 y2 w):=by
 have H1:=qh h1;have H2:=qh h2;have H3:=qh h3;have Z1:=qh z1;have Z2:=qh z2;have Z3:=qh z3;have HPQ:=qh hpq;obtain ⟨j1,hj1⟩:∃j,Rq.cmpQ x1 x3=j:=⟨_,rfl⟩;obtain ⟨j2,hj2⟩:∃j,Rq.cmpQ x2 x3=j:=⟨_,rfl⟩;obtain ⟨f1,hf1⟩:∃f,decide (0 < j1)=f:=⟨_,rfl⟩;obtain ⟨f2,hf2⟩:∃f,decide (0 < j2)=f:=⟨_,rfl⟩
 have k1:(if f1 then x3 else x1)=y1:=by
  rw [←hy1,←hf1,←hj1];unfold jws;by_cases z:x3 < x1
  ·rw [if_pos z,decide_eq_true (Rq.cmp_pos.2 z)];rfl
  ·rw [if_neg z,decide_eq_false (fun z2=>z (Rq.cmp_pos.1 z2))];rfl
 have k2:(if f2 then x3 else x2)=y2:=by
  rw [←hy2,←hf2,←hj2];unfold jws;by_cases z:x3 < x2
  ·rw [if_pos z,decide_eq_true (Rq.cmp_pos.2 z)];rfl
  ·rw [if_neg z,decide_eq_false (fun z2=>z (Rq.cmp_pos.1 z2))];rfl
 have HJ1:=qh hj1;have HJ2:=qh hj2;have HK1:=qh k1;have HK2:=qh k2;clear h1 h2 h3 z1 z2 z3 hpq hy1 hy2 hj1 hj2 k1 k2;go_enter func71,ntmps71;go_upto_region 1 with (fail)
 obtain ⟨W,hW⟩:∃W,(((w.alloc (.cells #[.int .i64 s1, .slice A1 n1 c1, .int .i64 t1, .slice B1 m1 d1, .int .i64 s2, .slice A2 n2 c2, .int .i64 t2, .slice B2 m2 d2] 72)).alloc (.cells #[.int .i64 s3, .slice A3 n3 c3, .int .i64 t3, .slice B3 m3 d3] 70)).alloc (.cells #[.int .i64 0, .slice none 0 0, .int .i64 0, .slice none 0 0, .int .i64 0, .slice none 0 0, .int .i64 0, .slice none 0 0] 72))=W:=⟨_,rfl⟩;have bW:Below w.heap.size w W:=by rw [←hW];exact bi
 have p0:W.cell? ⟨w.heap.size,0,none⟩=some (.int .i64 s1):=by rw [←hW];simp [go_sem]
 have p1:W.cell? ⟨w.heap.size,1,none⟩=some (.slice A1 n1 c1):=by rw [←hW];simp [go_sem]
 have p2:W.cell? ⟨w.heap.size,2,none⟩=some (.int .i64 t1):=by rw [←hW];simp [go_sem]
 have p3:W.cell? ⟨w.heap.size,3,none⟩=some (.slice B1 m1 d1):=by rw [←hW];simp [go_sem]
 have q0:W.cell? ⟨w.heap.size,4,none⟩=some (.int .i64 s2):=by rw [←hW];simp [go_sem]
 have q1:W.cell? ⟨w.heap.size,5,none⟩=some (.slice A2 n2 c2):=by rw [←hW];simp [go_sem]
 have q2:W.cell? ⟨w.heap.size,6,none⟩=some (.int .i64 t2):=by rw [←hW];simp [go_sem]
 have q3:W.cell? ⟨w.heap.size,7,none⟩=some (.slice B2 m2 d2):=by rw [←hW];simp [go_sem]
 have u0:W.cell? ⟨w.heap.size+1,0,none⟩=some (.int .i64 s3):=by rw [←hW];simp [go_sem]
 have u1:W.cell? ⟨w.heap.size+1,1,none⟩=some (.slice A3 n3 c3):=by rw [←hW];simp [go_sem]
 have u2:W.cell? ⟨w.heap.size+1,2,none⟩=some (.int .i64 t3):=by rw [←hW];simp [go_sem]
 have u3:W.cell? ⟨w.heap.size+1,3,none⟩=some (.slice B3 m3 d3):=by rw [←hW];simp [go_sem]
 have r0:W.cell? ⟨w.heap.size+2,0,none⟩=some (.int .i64 0):=by rw [←hW];simp [go_sem]
 have r1:W.cell? ⟨w.heap.size+2,1,none⟩=some (.slice none 0 0):=by rw [←hW];simp [go_sem]
 have r2:W.cell? ⟨w.heap.size+2,2,none⟩=some (.int .i64 0):=by rw [←hW];simp [go_sem]
 have r3:W.cell? ⟨w.heap.size+2,3,none⟩=some (.slice none 0 0):=by rw [←hW];simp [go_sem]
 have r4:W.cell? ⟨w.heap.size+2,4,none⟩=some (.int .i64 0):=by rw [←hW];simp [go_sem]
 have r5:W.cell? ⟨w.heap.size+2,5,none⟩=some (.slice none 0 0):=by rw [←hW];simp [go_sem]
 have r6:W.cell? ⟨w.heap.size+2,6,none⟩=some (.int .i64 0):=by rw [←hW];simp [go_sem]
 have r7:W.cell? ⟨w.heap.size+2,7,none⟩=some (.slice none 0 0):=by rw [←hW];simp [go_sem]
 have pf0:W.frozen? ⟨w.heap.size,0,none⟩=false:=by rw [←hW];simp [go_sem]
 have pf1:W.frozen? ⟨w.heap.size,1,none⟩=false:=by rw [←hW];simp [go_sem]
 have pf2:W.frozen? ⟨w.heap.size,2,none⟩=false:=by rw [←hW];simp [go_sem]
 have pf3:W.frozen? ⟨w.heap.size,3,none⟩=false:=by rw [←hW];simp [go_sem]
 have pf4:W.frozen? ⟨w.heap.size,4,none⟩=false:=by rw [←hW];simp [go_sem]
 have pf5:W.frozen? ⟨w.heap.size,5,none⟩=false:=by rw [←hW];simp [go_sem]
 have pf6:W.frozen? ⟨w.heap.size,6,none⟩=false:=by rw [←hW];simp [go_sem]
 have pf7:W.frozen? ⟨w.heap.size,7,none⟩=false:=by rw [←hW];simp [go_sem]
 have rf0:W.frozen? ⟨w.heap.size+2,0,none⟩=false:=by rw [←hW];simp [go_sem]
 have rf1:W.frozen? ⟨w.heap.size+2,1,none⟩=false:=by rw [←hW];simp [go_sem]
 have rf2:W.frozen? ⟨w.heap.size+2,2,none⟩=false:=by rw [←hW];simp [go_sem]
 have rf3:W.frozen? ⟨w.heap.size+2,3,none⟩=false:=by rw [←hW];simp [go_sem]
 have rf4:W.frozen? ⟨w.heap.size+2,4,none⟩=false:=by rw [←hW];simp [go_sem]
 have rf5:W.frozen? ⟨w.heap.size+2,5,none⟩=false:=by rw [←hW];simp [go_sem]
 have rf6:W.frozen? ⟨w.heap.size+2,6,none⟩=false:=by rw [←hW];simp [go_sem]
 have rf7:W.frozen? ⟨w.heap.size+2,7,none⟩=false:=by rw [←hW];simp [go_sem]
 have zW0:w.heap.size < W.heap.size:=by rw [←hW];first|(simp;done)|(simp;omega)
 have zW1:w.heap.size+1 < W.heap.size:=by rw [←hW];first|(simp;done)|(simp;omega)
 have zW2:w.heap.size+2 < W.heap.size:=by rw [←hW];first|(simp;done)|(simp;omega)
 simp only [show w.heap.size+1+1=w.heap.size+2 from rfl];rw [hW];obtain ⟨g,hg⟩:∃b,w.heap.size=b:=⟨_,rfl⟩;rw [hg] at p0 p1 p2 p3 q0 q1 q2 q3 u0 u1 u2 u3 r0 r1 r2 r3 r4 r5 r6 r7 pf0 pf1 pf2 pf3 pf4 pf5 pf6 pf7 rf0 rf1 rf2 rf3 rf4 rf5 rf6 rf7 zW0 zW1 zW2 ⊢;have HB:=qh bW;have HG:=qh hg;have _:Bz w W:=⟨bW⟩;have _:Sx w.heap.size g:=⟨Nat.le_of_eq hg⟩;have _:Sx w.heap.size (g+2):=⟨by rw [hg];exact Nat.le_add_right _ _⟩;have _:Sl g W.heap.size:=⟨zW0⟩;have _:Sl (g+1) W.heap.size:=⟨zW1⟩;have _:Sl (g+2) W.heap.size:=⟨zW2⟩;clear hW bW hg;cases f1 <;> cases f2
 ·go_wp2_with (first|((go_at_call 76;(with_reducible refine mo0 (jd7 p q HJ1.o (RepF.below H1.o bi) (RepF.below H3.o bi) Z1.o Z3.o HPQ.o) fun w11 hb11 hc11 hf11 _=> ?_));have y11_0:=zlt (g) hb11;have y11_1:=zlt (g+1) hb11;have y11_2:=zlt (g+2) hb11)|((go_at_call 76;(with_reducible refine mo0 (jd7 p q HJ2.o (RepF.below H2.o bi) (RepF.below H3.o bi) Z2.o Z3.o HPQ.o) fun w12 hb12 hc12 hf12 _=> ?_));have y12_0:=zlt (g) hb12;have y12_1:=zlt (g+1) hb12;have y12_2:=zlt (g+2) hb12))
  obtain rfl:x1=y1:=by simpa using HK1.o
  obtain rfl:x2=y2:=by simpa using HK2.o
  exact bodyPost_ret (v:= .agg #[.int .i64 s1, .slice A1 n1 c1, .int .i64 t1, .slice B1 m1 d1, .int .i64 s2, .slice A2 n2 c2, .int .i64 t2, .slice B2 m2 d2]) (by simp [results,results71,go_sem,r0,r1,r2,r3,r4,r5,r6,r7,hc11,hc12,y11_0,y12_0,y11_2,y12_2,zW0,zW2,hf11,hf12,rf0,rf1,rf2,rf3,rf4,rf5,rf6,rf7]) rfl (jwC rfl (RepF.below H1.o bi) (RepF.below H2.o bi) bi)
 ·go_wp2_with (first|((go_at_call 76;(with_reducible refine mo0 (jd7 p q HJ1.o (RepF.below H1.o bi) (RepF.below H3.o bi) Z1.o Z3.o HPQ.o) fun w11 hb11 hc11 hf11 _=> ?_));have y11_0:=zlt (g) hb11;have y11_1:=zlt (g+1) hb11;have y11_2:=zlt (g+2) hb11)|((go_at_call 76;(with_reducible refine mo0 (jd7 p q HJ2.o (RepF.below H2.o bi) (RepF.below H3.o bi) Z2.o Z3.o HPQ.o) fun w12 hb12 hc12 hf12 _=> ?_));have y12_0:=zlt (g) hb12;have y12_1:=zlt (g+1) hb12;have y12_2:=zlt (g+2) hb12))
  obtain rfl:x1=y1:=by simpa using HK1.o
  obtain rfl:x3=y2:=by simpa using HK2.o
  exact bodyPost_ret (v:= .agg #[.int .i64 s1, .slice A1 n1 c1, .int .i64 t1, .slice B1 m1 d1, .int .i64 s3, .slice A3 n3 c3, .int .i64 t3, .slice B3 m3 d3]) (by simp [results,results71,go_sem,r0,r1,r2,r3,r4,r5,r6,r7,hc11,hc12,y11_0,y12_0,y11_2,y12_2,zW0,zW2,hf11,hf12,rf0,rf1,rf2,rf3,rf4,rf5,rf6,rf7]) rfl (jwC rfl (RepF.below H1.o bi) (RepF.below H3.o bi) bi)
 ·go_wp2_with (first|((go_at_call 76;(with_reducible refine mo0 (jd7 p q HJ1.o (RepF.below H1.o bi) (RepF.below H3.o bi) Z1.o Z3.o HPQ.o) fun w11 hb11 hc11 hf11 _=> ?_));have y11_0:=zlt (g) hb11;have y11_1:=zlt (g+1) hb11;have y11_2:=zlt (g+2) hb11)|((go_at_call 76;(with_reducible refine mo0 (jd7 p q HJ2.o (RepF.below H2.o bi) (RepF.below H3.o bi) Z2.o Z3.o HPQ.o) fun w12 hb12 hc12 hf12 _=> ?_));have y12_0:=zlt (g) hb12;have y12_1:=zlt (g+1) hb12;have y12_2:=zlt (g+2) hb12))
  obtain rfl:x3=y1:=by simpa using HK1.o
  obtain rfl:x2=y2:=by simpa using HK2.o
  exact bodyPost_ret (v:= .agg #[.int .i64 s3, .slice A3 n3 c3, .int .i64 t3, .slice B3 m3 d3, .int .i64 s2, .slice A2 n2 c2, .int .i64 t2, .slice B2 m2 d2]) (by simp [results,results71,go_sem,r0,r1,r2,r3,r4,r5,r6,r7,hc11,hc12,y11_0,y12_0,y11_2,y12_2,zW0,zW2,hf11,hf12,rf0,rf1,rf2,rf3,rf4,rf5,rf6,rf7]) rfl (jwC rfl (RepF.below H3.o bi) (RepF.below H2.o bi) bi)
 ·go_wp2_with (first|((go_at_call 76;(with_reducible refine mo0 (jd7 p q HJ1.o (RepF.below H1.o bi) (RepF.below H3.o bi) Z1.o Z3.o HPQ.o) fun w11 hb11 hc11 hf11 _=> ?_));have y11_0:=zlt (g) hb11;have y11_1:=zlt (g+1) hb11;have y11_2:=zlt (g+2) hb11)|((go_at_call 76;(with_reducible refine mo0 (jd7 p q HJ2.o (RepF.below H2.o bi) (RepF.below H3.o bi) Z2.o Z3.o HPQ.o) fun w12 hb12 hc12 hf12 _=> ?_));have y12_0:=zlt (g) hb12;have y12_1:=zlt (g+1) hb12;have y12_2:=zlt (g+2) hb12))
  obtain rfl:x3=y1:=by simpa using HK1.o
  obtain rfl:x3=y2:=by simpa using HK2.o
  exact bodyPost_ret (v:= .agg #[.int .i64 s3, .slice A3 n3 c3, .int .i64 t3, .slice B3 m3 d3, .int .i64 s3, .slice A3 n3 c3, .int .i64 t3, .slice B3 m3 d3]) (by simp [results,results71,go_sem,r0,r1,r2,r3,r4,r5,r6,r7,hc11,hc12,y11_0,y12_0,y11_2,y12_2,zW0,zW2,hf11,hf12,rf0,rf1,rf2,rf3,rf4,rf5,rf6,rf7]) rfl (jwC rfl (RepF.below H3.o bi) (RepF.below H3.o bi) bi)
set_option maxHeartbeats 16000000 in
theorem jx0 (h1:RepF w s1 A1 n1 c1 t1 B1 m1 d1 x1) (h2:RepF w s2 A2 n2 c2 t2 B2 m2 d2 x2) (g1:je3 x1=false) (g2:je3 x2=false) (s1':StrQ x1) (s2':StrQ x2) (hE:Env w):
  Calls prog 27 #[.agg #[.int .i64 s1, .slice A1 n1 c1, .int .i64 t1, .slice B1 m1 d1, .int .i64 s2, .slice A2 n2 c2, .int .i64 t2, .slice B2 m2 d2]] w fun e w'=>e= .returned (.tuple #[.agg #[bs (tq x1),bs (tq x2)], .int .i64 0])∧Below w.heap.size w w':=by
 have H1:=qh h1;have H2:=qh h2;have G1:=qh g1;have G2:=qh g2;have D1:=qh (DigQ.of g1);have D2:=qh (DigQ.of g2);have S1:=qh s1';have S2:=qh s2';have HE:=qh hE;obtain ⟨T1,hT1⟩:∃T,tq x1=T:=⟨_,rfl⟩;obtain ⟨T2,hT2⟩:∃T,tq x2=T:=⟨_,rfl⟩;have HX1:=qh (fun W (hb:Below w.heap.size w W)=>jgy (h1.below hb) (hE.below hb) s1' (DigQ.of g1));have HX2:=qh (fun W (hb:Below w.heap.size w W)=>jgy (h2.below hb) (hE.below hb) s2' (DigQ.of g2));rw [hT1] at HX1 ⊢;rw [hT2] at HX2 ⊢;clear h1 h2 g1 g2 s1' s2' hE hT1 hT2;go_enter func27,ntmps27;go_upto_region 1 with (fail)
 obtain ⟨W,hW⟩:∃W,((w.alloc (.cells #[.int .i64 s1, .slice A1 n1 c1, .int .i64 t1, .slice B1 m1 d1, .int .i64 s2, .slice A2 n2 c2, .int .i64 t2, .slice B2 m2 d2] 72)).alloc (.cells #[bs [],bs []] 25))=W:=⟨_,rfl⟩;have bW:Below w.heap.size w W:=by rw [←hW];exact bi
 have p0:W.cell? ⟨w.heap.size,0,none⟩=some (.int .i64 s1):=by rw [←hW];simp [go_sem]
 have p1:W.cell? ⟨w.heap.size,1,none⟩=some (.slice A1 n1 c1):=by rw [←hW];simp [go_sem]
 have p2:W.cell? ⟨w.heap.size,2,none⟩=some (.int .i64 t1):=by rw [←hW];simp [go_sem]
 have p3:W.cell? ⟨w.heap.size,3,none⟩=some (.slice B1 m1 d1):=by rw [←hW];simp [go_sem]
 have q0:W.cell? ⟨w.heap.size,4,none⟩=some (.int .i64 s2):=by rw [←hW];simp [go_sem]
 have q1:W.cell? ⟨w.heap.size,5,none⟩=some (.slice A2 n2 c2):=by rw [←hW];simp [go_sem]
 have q2:W.cell? ⟨w.heap.size,6,none⟩=some (.int .i64 t2):=by rw [←hW];simp [go_sem]
 have q3:W.cell? ⟨w.heap.size,7,none⟩=some (.slice B2 m2 d2):=by rw [←hW];simp [go_sem]
 have r0:W.cell? ⟨w.heap.size+1,0,none⟩=some (bs []):=by rw [←hW];simp [go_sem]
 have r1:W.cell? ⟨w.heap.size+1,1,none⟩=some (bs []):=by rw [←hW];simp [go_sem]
 have rf0:W.frozen? ⟨w.heap.size+1,0,none⟩=false:=by rw [←hW];simp [go_sem]
 have rf1:W.frozen? ⟨w.heap.size+1,1,none⟩=false:=by rw [←hW];simp [go_sem]
 have zW0:w.heap.size < W.heap.size:=by rw [←hW];first|(simp;done)|(simp;omega)
 have zW1:w.heap.size+1 < W.heap.size:=by rw [←hW];first|(simp;done)|(simp;omega)
 rw [hW];obtain ⟨g,hg⟩:∃b,w.heap.size=b:=⟨_,rfl⟩;rw [hg] at p0 p1 p2 p3 q0 q1 q2 q3 r0 r1 rf0 rf1 zW0 zW1 ⊢;have HB:=qh bW;have HG:=qh hg;have _:Bz w W:=⟨bW⟩;have _:Sl g W.heap.size:=⟨zW0⟩;have _:Sl (g+1) W.heap.size:=⟨zW1⟩;clear hW bW hg;go_upto_region 3 with (first|((go_at_call 52;(with_reducible refine mo0 (jbf G1.o (H1.o.below bi) (HE.o.below bi) S1.o) fun w1 hb1 hc1 hf1 _=> ?_));have y1_0:=zlt (g) hb1;have y1_1:=zlt (g+1) hb1)|((go_at_call 52;(with_reducible refine mo0 (jbf G2.o (H2.o.below bi) (HE.o.below bi) S2.o) fun w2 hb2 hc2 hf2 _=> ?_));have y2_0:=zlt (g) hb2;have y2_1:=zlt (g+1) hb2))
 have b2:RowKit.Below W.heap.size W w2:=bi;replace p0:=ja9 b2 p0;replace p1:=ja9 b2 p1;replace p2:=ja9 b2 p2;replace p3:=ja9 b2 p3;replace q0:=ja9 b2 q0;replace q1:=ja9 b2 q1;replace q2:=ja9 b2 q2;replace q3:=ja9 b2 q3;replace r0:=ja9 b2 r0;replace r1:=ja9 b2 r1;replace rf0:=(b2.frozen (p:=⟨g+1,0,none⟩) zW1).trans rf0;replace rf1:=(b2.frozen (p:=⟨g+1,1,none⟩) zW1).trans rf1;have hy0:g < w2.heap.size:=World.block_lt_of_cell? w2 _ p0;have hy1:g+1 < w2.heap.size:=World.block_lt_of_cell? w2 _ r0;have hB2:=qh (ja0 HB.o b2);clear hb1 hb2 hc1 hc2 hf1 hf2 zW0 zW1 b2;refine ja1 (fun w'=>Below w2.heap.size w2 w') [7,8] (by kernel_rfl) ?_;refine tl [(0,[], .pointer (some ⟨g,0,none⟩)),(1,[],fv s1 A1 n1 c1 t1 B1 m1 d1),(3,[], .pointer (some ⟨g,4,none⟩)),(4,[],fv s2 A2 n2 c2 t2 B2 m2 d2)] [_,_,_,_] rfl (by kernel_rfl) pk5 (by intros;simp only [tyq,ppq];go_simp) bq0 ?_;simp only [tlq,ppq];refine rd1 2 (by kernel_rfl) rfl (fun K hK=> ?_);go_simp;go_wp2_with (go_at_call 53;(with_reducible refine mo0 (HX1.o _ (ja0 hB2.out bi)) fun w3 hb3 hc3 hf3 _=> ?_))
 have sS3:=qh (bst bq0 hb3);refine hK.out _ _ (fun _=>sS3.o) ?_;clear hK K;refine rd1 5 (by kernel_rfl) rfl (fun K hK=> ?_);go_simp;go_wp2_with (go_at_call 53;(with_reducible refine mo0 (HX2.o _ (ja0 hB2.out bi)) fun w4 hb4 hc4 hf4 _=> ?_))
 have sS4:=qh (bst sS3.o hb4);refine hK.out _ _ (fun _=>sS4.o) ?_;clear hK K;refine rd1 6 (by kernel_rfl) rfl (fun K hK=> ?_);go_simp;refine hK.out _ _ (fun _=>bi) ?_;clear hK K;have b4:RowKit.Below w2.heap.size w2 w4:=bi;replace r0:=ja9 b4 r0;replace r1:=ja9 b4 r1;replace rf0:=(b4.frozen (p:=⟨g+1,0,none⟩) hy1).trans rf0;replace rf1:=(b4.frozen (p:=⟨g+1,1,none⟩) hy1).trans rf1;refine rd1 7 (by kernel_rfl) rfl (fun K hK=> ?_);go_simp;refine hK.out _ _ (fun h=>(h (by decide)).elim) ?_;clear hK K;refine rd1 8 (by kernel_rfl) rfl (fun K hK=> ?_);go_simp;refine hK.out _ _ (fun h=>(h (by decide)).elim) ?_;clear hK K;refine ja2 (by kernel_rfl) ?_ _;go_wp2;have _:Bz w w4:=⟨ja0 hB2.out b4⟩;have _:Sx w.heap.size (g+1):=⟨by rw [HG.o];exact Nat.le_succ _⟩;exact bodyPost_ret (v:= .tuple #[.agg #[bs T1,bs T2], .int .i64 0]) (by simp [results,results27,go_sem,r0,r1,rf0,rf1]) rfl ⟨rfl,bi⟩
end

theorem jys:(prog.info? 72).map (fun i=>(i.zero,i.size,i.bytes))=some (some (.agg #[.int .i64 0, .slice none 0 0, .int .i64 0, .slice none 0 0, .int .i64 0, .slice none 0 0, .int .i64 0, .slice none 0 0]),8,128):=by kernel_rfl
structure OwnD (w:World) (base:Nat) (v:Value) (n:Nat) (vs:List PT) (qs:List (Rat×Rat)):Prop where
 row:w.ownsRow base 72 8 v n (ptl vs)
 len:vs.length=qs.length
 rep:∀(j:Nat) (q:PT) (x:Rat×Rat),vs[j]? =some q→qs[j]? =some x→jwy w q x
 nou:∀g,v.ownBlock=some g→NoU w g
theorem OwnD.nil (w:World) (base:Nat):OwnD w base (.slice none 0 0) 0 [] []:=⟨World.ownsRow_nil _ _ _ _,rfl,fun j q x h=>by simp at h,fun g h=>by cases h⟩
theorem OwnD.kept {w w':World} {base n:Nat} {v:Value} {vs:List PT} {qs:List (Rat×Rat)} {row:Option Nat} (h:OwnD w base v n vs qs) (hg:w.grownBy w' row) (hr:∀g,row=some g→NoU w g) (hne:∀g,v.ownBlock=some g→some g≠row):OwnD w' base v n vs qs:=
 ⟨World.ownsRow.kept h.row hg (by cases e:v.ownBlock with|none=>exact .inl rfl|some g=>exact .inr (hne g e)),h.len,fun j q x h1 h2=>⟨⟨(h.rep j q x h1 h2).1.1.grown hg hr,(h.rep j q x h1 h2).1.2.grown hg hr⟩,⟨(h.rep j q x h1 h2).2.1.grown hg hr,(h.rep j q x h1 h2).2.2.grown hg hr⟩⟩,
   fun g e=>(h.nou g e).kept (hg.block g (World.ownsRow.lt h.row g e).2 (hne g e))⟩
theorem OwnD.below {w w':World} {base n:Nat} {v:Value} {vs:List PT} {qs:List (Rat×Rat)} (h:OwnD w base v n vs qs) (hb:Below w.heap.size w w'):OwnD w' base v n vs qs:=
 h.kept (jeZ hb) (fun g e=>by cases e) (fun g _ e=>by cases e)
theorem OwnD.alloc {w:World} {base n:Nat} {v:Value} {vs:List PT} {qs:List (Rat×Rat)} (h:OwnD w base v n vs qs) (o:Obj):OwnD (w.alloc o) base v n vs qs:=h.below (bA bR)
theorem OwnD.lt {w:World} {base n:Nat} {v:Value} {vs:List PT} {qs:List (Rat×Rat)} (h:OwnD w base v n vs qs):∀k,v.ownBlock=some k→base≤k∧k < w.heap.size:=World.ownsRow.lt h.row
theorem OwnD.num {w:World} {base n:Nat} {v:Value} {vs:List PT} {qs:List (Rat×Rat)} (h:OwnD w base v n vs qs):qs.length=n:=by
 have:=h.row.1;rw [jxI] at this;have:=h.len;omega
theorem jyt {w:World} {base n b c:Nat} {v:Value} {vs:List PT} {qs:List (Rat×Rat)} {q:PT} {x:Rat×Rat} (h:OwnD w base v n vs qs) (hn:n≤100000) (hb:base≤w.heap.size) (hq:jwy w q x)
  (h0:∀k u,(ptc q)[k]? =some u→w.cell? ⟨b,k,none⟩=some u):
  ∃v' w',(Builtin.append_ #[75,75] 75 #[v, .slice (some ⟨b,0,none⟩) 1 c]).run prog w= .ok v' w'∧OwnD w' base v' (n+1) (vs++[q]) (qs++[x])∧w.grownBy w' v.ownBlock∧(v'.ownBlock=v.ownBlock∨v'.ownBlock=some w.heap.size):=by
 obtain ⟨i,hi,hz0,hz1,hz2⟩:=info_parts jys
 have hnews:∀j u,(ptl [q])[j]? =some u→w.cell? ((⟨b,0,none⟩:Addr).add j)=some u:=by
  intro j u hu;rw [jk6];exact h0 j u (by simpa [ptl] using hu)
 have hone:∀u∈ptl [q],u.oneCell'=true:=by intro u hu;simp [ptl,ptc,fts] at hu;rcases hu with rfl|rfl|rfl|rfl|rfl|rfl|rfl|rfl <;> rfl
 obtain ⟨v',w',hr,k1,k2,_,k3⟩:=run_append_own_at (P:=prog) w base 75 75 72 i _ 8 128 underlying75 hi hz0 hz1 hz2 rfl (by decide) v n (ptl vs) h.row ⟨b,0,none⟩ 1 c (ptl [q]) rfl hnews hone
  (by simp only [maxLen];omega) (by omega) hb
 have hzc:∀k,∀u∈(Builtin.zeroCells (Value.agg #[.int .i64 0, .slice none 0 0, .int .i64 0, .slice none 0 0, .int .i64 0, .slice none 0 0, .int .i64 0, .slice none 0 0]).cells k).toList,∀z,u≠ .int .u64 z:=by
  intro k u hu z;simp [Builtin.zeroCells,Value.cells] at hu;obtain ⟨i,_,rfl⟩:=hu;have:i % 8=0∨i % 8=1∨i % 8=2∨i % 8=3∨i % 8=4∨i % 8=5∨i % 8=6∨i % 8=7:=by omega
  rcases this with h|h|h|h|h|h|h|h <;> rw [h] <;> simp
 have hns:∀u∈ptl [q],∀z,u≠ .int .u64 z:=by
  intro u hu;simp only [ptl,List.flatMap_cons,List.flatMap_nil,List.append_nil] at hu;exact jy1 u hu
 have hnou:∀g,v'.ownBlock=some g→NoU w' g:=by
  rcases h.row.2 with ⟨rfl,rfl⟩|⟨g,cap,cur,rfl,hbg,hg,hnc,hcm,hcs,htake⟩
  ·have hr2:=run_append_nil (P:=prog) w 75 75 72 i _ underlying75 hi hz0 ⟨b,0,none⟩ 1 c (ptl [q]) (by simp [ptl,ptc,fts,hz1]) hnews (by omega) (by omega) (by rw [hz2];omega);rw [hr] at hr2;obtain ⟨rfl,rfl⟩:=Result.ok.inj hr2;intro g hg;simp [Value.ownBlock] at hg;subst hg;refine jgw fun u hu z=> ?_
   simp only [Array.toList_append,List.mem_append] at hu;rcases hu with hu|hu
   ·exact hns u hu z
   ·exact hzc _ u hu z
  ·have hcn:∀u∈cur.toList,∀z,u≠ .int .u64 z:=by
    obtain ⟨cur',t',f',e1,e2⟩:=h.nou g rfl;rw [hg] at e1;cases e1
    exact e2
   by_cases hroom:n+1≤cap
   ·have hr2:=run_append_room (P:=prog) w 75 75 72 i underlying75 hi g n cap cur hg ⟨b,0,none⟩ 1 c (ptl [q]) (by simp [ptl,ptc,fts,hz1]) hnews hone hroom (by rw [hz1,hcs];simp [ptl,ptc,fts];omega);rw [hr] at hr2;obtain ⟨rfl,rfl⟩:=Result.ok.inj hr2;intro k hk;simp [Value.ownBlock] at hk;subst hk;refine ⟨_,_,_,setRow_heap w g cur _ _ _ hg,fun u hu z=> ?_⟩;simp only [List.mem_append] at hu;rcases hu with (hu|hu)|hu
    ·exact hcn u (List.mem_of_mem_take hu) z
    ·exact hns u hu z
    ·exact hcn u (List.mem_of_mem_drop hu) z
   ·have holds:∀j u,(ptl vs)[j]? =some u→w.cell? ((⟨g,0,none⟩:Addr).add j)=some u:=h.row.cells (g:=g) rfl;have hr2:=run_append_grow (P:=prog) w 75 75 72 i _ underlying75 hi hz0 ⟨g,0,none⟩ n cap (ptl vs) (by rw [hz1];exact h.row.1) holds ⟨b,0,none⟩ 1 c (ptl [q]) (by simp [ptl,ptc,fts,hz1]) hnews (by omega) (by omega) (growslice_fits (by omega) (by rw [hz2];omega));rw [hr] at hr2;obtain ⟨rfl,rfl⟩:=Result.ok.inj hr2;intro k hk;simp [Value.ownBlock] at hk;subst hk;refine jgw fun u hu z=> ?_
    simp only [Array.toList_append,List.mem_append] at hu;rcases hu with (hu|hu)|hu
    ·refine hcn u ?_ z;have hu':u∈ptl vs:=hu;rw [←htake] at hu';exact List.mem_of_mem_take hu'
    ·exact hns u hu z
    ·exact hzc _ u hu z
 refine ⟨v',w',hr,⟨by rw [jwY];exact k1,by simp [h.len],fun j p y e1 e2=> ?_,hnou⟩,k2,k3⟩;have hlen:=h.len;have hgr (p:PT) (y:Rat×Rat) (hp:jwy w p y):jwy w' p y:=⟨⟨hp.1.1.grown k2 (fun g e=>h.nou g e),hp.1.2.grown k2 (fun g e=>h.nou g e)⟩,⟨hp.2.1.grown k2 (fun g e=>h.nou g e),hp.2.2.grown k2 (fun g e=>h.nou g e)⟩⟩;by_cases hj:j < vs.length
 ·rw [List.getElem?_append_left hj] at e1;rw [List.getElem?_append_left (by omega)] at e2;exact hgr _ _ (h.rep j p y e1 e2)
 ·rw [List.getElem?_append_right (by omega)] at e1;rw [List.getElem?_append_right (by omega)] at e2
  have:j - vs.length=0:=by
   rcases Nat.eq_zero_or_pos (j - vs.length) with h|h
   ·exact h
   ·rw [List.getElem?_eq_none (by simp;omega)] at e1;cases e1
  rw [this] at e1;rw [show j - qs.length=0 by omega] at e2;simp at e1 e2;subst e1 e2;exact hgr _ _ hq
theorem OwnD.ptv {w:World} {base n:Nat} {v:Value} {vs:List PT} {qs:List (Rat×Rat)} (h:OwnD w base v n vs qs):∃A c,v= .slice A n c∧Ptv w A n qs:=by
 have hl:=h.num;rcases h.row.2 with ⟨rfl,h1⟩|⟨g,cap,cur,rfl,hb,hg,hnc,hcm,hcs,ht⟩
 ·subst h1;exact ⟨none,0,rfl,hl,fun h=>by omega⟩
 ·refine ⟨some ⟨g,0,none⟩,cap,rfl,hl,fun _=>⟨g,0,rfl,(Array.getElem?_eq_some_iff.1 hg).1,fun j hj=> ?_⟩⟩;have hj1:j < vs.length:=by have:=h.len;omega
  have e1:vs[j]? =some vs[j]:=List.getElem?_eq_getElem hj1
  have e2:qs[j]? =some (qs.getD j (0,0)):=by rw [List.getD_eq_getElem?_getD,List.getElem?_eq_getElem (by omega)];rfl
  refine ⟨vs[j],fun k u hu=> ?_,h.rep j _ _ e1 e2⟩;have hk:k < 8:=by have:=(List.getElem?_eq_some_iff.1 hu).1;rwa [jx7] at this
  have:=World.ownsRow.cells h.row (g:=g) rfl (j*8+k) u (by rw [jyl vs j k _ e1 hk,hu]);rw [jk6] at this;rw [Nat.zero_add];exact this
end Go.Proofs.YtfagcpcikjlboaaGreatDoor
