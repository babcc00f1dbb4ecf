/- Parts. -/
import Derived.Test.YtpkcjfpgemdfdaaGreatDoorZhG
set_option linter.all false
set_option maxRecDepth 100000
set_option maxHeartbeats 8000000
namespace Go.Proofs.YtpkcjfpgemdfdaaGreatDoor
open Go Go.RowKit Go.Proofs.Tryz

section
variable {w:World} {s1 s2 s3 s4 s5 t1 t2 t3 t4 t5:Int} {A1 A2 A3 A4 A5 B1 B2 B3 B4 B5:Option Addr} {n1 n2 n3 n4 n5 c1 c2 c3 c4 c5 m1 m2 m3 m4 m5 d1 d2 d3 d4 d5:Nat} {ax ay bx by_ x z:Rat}
set_option maxHeartbeats 16000000 in
theorem jzE (h1:RepF w s1 A1 n1 c1 t1 B1 m1 d1 ax) (h2:RepF w s2 A2 n2 c2 t2 B2 m2 d2 ay) (h3:RepF w s3 A3 n3 c3 t3 B3 m3 d3 bx) (h4:RepF w s4 A4 n4 c4 t4 B4 m4 d4 by_) (h5:RepF w s5 A5 n5 c5 t5 B5 m5 d5 x) (z1:Sz 600 ax) (z2:Sz 600 ay) (z3:Sz 600 bx) (z4:Sz 600 by_) (z5:Sz 600 x) (hne:bx - ax≠0) (hz:ay+(by_ - ay)*(x - ax) / (bx - ax)=z):
  Calls prog 104 #[.agg #[.int .i64 s1, .slice A1 n1 c1, .int .i64 t1, .slice B1 m1 d1, .int .i64 s2, .slice A2 n2 c2, .int .i64 t2, .slice B2 m2 d2], .agg #[.int .i64 s3, .slice A3 n3 c3, .int .i64 t3, .slice B3 m3 d3, .int .i64 s4, .slice A4 n4 c4, .int .i64 t4, .slice B4 m4 d4],fv s5 A5 n5 c5 t5 B5 m5 d5] w (jaa z w):=by
 have H1:=qh h1;have H2:=qh h2;have H3:=qh h3;have H4:=qh h4;have H5:=qh h5;have Z1:=qh z1;have Z2:=qh z2;have Z3:=qh z3;have Z4:=qh z4;have Z5:=qh z5;have HN:=qh hne;obtain ⟨P,hP⟩:∃P,by_ - ay=P:=⟨_,rfl⟩;obtain ⟨R,hR⟩:∃P,x - ax=P:=⟨_,rfl⟩;obtain ⟨D,hD⟩:∃P,bx - ax=P:=⟨_,rfl⟩;rw [hP,hR,hD] at hz;obtain ⟨M,hM⟩:∃T,P*R=T:=⟨_,rfl⟩;obtain ⟨Q,hQ⟩:∃T,M / D=T:=⟨_,rfl⟩;have y1:Sz 1201 P:=hP ▸ z4.sub z2;have y2:Sz 1201 R:=hR ▸ z5.sub z1;have y3:Sz 1201 D:=hD ▸ z3.sub z1;have hne2:D≠0:=hD ▸ hne;have y4:Sz 2402 M:=hM ▸ y1.mul y2;have y5:Sz 3603 Q:=hQ ▸ y4.div y3 hne2;rw [hM,hQ] at hz;have HP:=qh hP;have HR:=qh hR;have HD:=qh hD;have HM:=qh hM;have HQ:=qh hQ;have HZ:=qh hz;have Y1:=qh y1;have Y2:=qh y2;have Y3:=qh y3;have Y4:=qh y4;have Y5:=qh y5;have HN2:=qh hne2;clear h1 h2 h3 h4 h5 z1 z2 z3 z4 z5 hne hP hR hD hM hQ hz y1 y2 y3 y4 y5 hne2 HN;go_enter func104,ntmps104;go_upto_region 1 with (fail)
 have bW:Below w.heap.size w ((((w.alloc (.cells #[.int .i64 s1, .slice A1 n1 c1, .int .i64 t1, .slice B1 m1 d1, .int .i64 s2, .slice A2 n2 c2, .int .i64 t2, .slice B2 m2 d2] 91)).alloc (.cells #[.int .i64 s3, .slice A3 n3 c3, .int .i64 t3, .slice B3 m3 d3, .int .i64 s4, .slice A4 n4 c4, .int .i64 t4, .slice B4 m4 d4] 91)).alloc (.cells #[.int .i64 s5, .slice A5 n5 c5, .int .i64 t5, .slice B5 m5 d5] 85)).alloc (.cells #[.int .i64 0, .slice none 0 0, .int .i64 0, .slice none 0 0] 85)):=bi;obtain ⟨W,hW⟩:∃W,((((w.alloc (.cells #[.int .i64 s1, .slice A1 n1 c1, .int .i64 t1, .slice B1 m1 d1, .int .i64 s2, .slice A2 n2 c2, .int .i64 t2, .slice B2 m2 d2] 91)).alloc (.cells #[.int .i64 s3, .slice A3 n3 c3, .int .i64 t3, .slice B3 m3 d3, .int .i64 s4, .slice A4 n4 c4, .int .i64 t4, .slice B4 m4 d4] 91)).alloc (.cells #[.int .i64 s5, .slice A5 n5 c5, .int .i64 t5, .slice B5 m5 d5] 85)).alloc (.cells #[.int .i64 0, .slice none 0 0, .int .i64 0, .slice none 0 0] 85))=W:=⟨_,rfl⟩;have p0:W.cell? ⟨w.heap.size,0,none⟩=some (.int .i64 s1):=by rw [←hW];simp [go_sem]
 have p1:W.cell? ⟨w.heap.size,1,none⟩=some (.slice A1 n1 c1):=by rw [←hW];simp [go_sem]
 have p2:W.cell? ⟨w.heap.size,2,none⟩=some (.int .i64 t1):=by rw [←hW];simp [go_sem]
 have p3:W.cell? ⟨w.heap.size,3,none⟩=some (.slice B1 m1 d1):=by rw [←hW];simp [go_sem]
 have q0:W.cell? ⟨w.heap.size,4,none⟩=some (.int .i64 s2):=by rw [←hW];simp [go_sem]
 have q1:W.cell? ⟨w.heap.size,5,none⟩=some (.slice A2 n2 c2):=by rw [←hW];simp [go_sem]
 have q2:W.cell? ⟨w.heap.size,6,none⟩=some (.int .i64 t2):=by rw [←hW];simp [go_sem]
 have q3:W.cell? ⟨w.heap.size,7,none⟩=some (.slice B2 m2 d2):=by rw [←hW];simp [go_sem]
 have u0:W.cell? ⟨w.heap.size+1,0,none⟩=some (.int .i64 s3):=by rw [←hW];simp [go_sem]
 have u1:W.cell? ⟨w.heap.size+1,1,none⟩=some (.slice A3 n3 c3):=by rw [←hW];simp [go_sem]
 have u2:W.cell? ⟨w.heap.size+1,2,none⟩=some (.int .i64 t3):=by rw [←hW];simp [go_sem]
 have u3:W.cell? ⟨w.heap.size+1,3,none⟩=some (.slice B3 m3 d3):=by rw [←hW];simp [go_sem]
 have v0:W.cell? ⟨w.heap.size+1,4,none⟩=some (.int .i64 s4):=by rw [←hW];simp [go_sem]
 have v1:W.cell? ⟨w.heap.size+1,5,none⟩=some (.slice A4 n4 c4):=by rw [←hW];simp [go_sem]
 have v2:W.cell? ⟨w.heap.size+1,6,none⟩=some (.int .i64 t4):=by rw [←hW];simp [go_sem]
 have v3:W.cell? ⟨w.heap.size+1,7,none⟩=some (.slice B4 m4 d4):=by rw [←hW];simp [go_sem]
 have x0:W.cell? ⟨w.heap.size+2,0,none⟩=some (.int .i64 s5):=by rw [←hW];simp [go_sem]
 have x1:W.cell? ⟨w.heap.size+2,1,none⟩=some (.slice A5 n5 c5):=by rw [←hW];simp [go_sem]
 have x2:W.cell? ⟨w.heap.size+2,2,none⟩=some (.int .i64 t5):=by rw [←hW];simp [go_sem]
 have x3:W.cell? ⟨w.heap.size+2,3,none⟩=some (.slice B5 m5 d5):=by rw [←hW];simp [go_sem]
 have r0:W.cell? ⟨w.heap.size+3,0,none⟩=some (.int .i64 0):=by rw [←hW];simp [go_sem]
 have r1:W.cell? ⟨w.heap.size+3,1,none⟩=some (.slice none 0 0):=by rw [←hW];simp [go_sem]
 have r2:W.cell? ⟨w.heap.size+3,2,none⟩=some (.int .i64 0):=by rw [←hW];simp [go_sem]
 have r3:W.cell? ⟨w.heap.size+3,3,none⟩=some (.slice none 0 0):=by rw [←hW];simp [go_sem]
 have rf0:W.frozen? ⟨w.heap.size+3,0,none⟩=false:=by rw [←hW];simp [go_sem]
 have rf1:W.frozen? ⟨w.heap.size+3,1,none⟩=false:=by rw [←hW];simp [go_sem]
 have rf2:W.frozen? ⟨w.heap.size+3,2,none⟩=false:=by rw [←hW];simp [go_sem]
 have rf3:W.frozen? ⟨w.heap.size+3,3,none⟩=false:=by rw [←hW];simp [go_sem]
 have zW:w.heap.size+3 < W.heap.size:=by rw [←hW];simp
 simp only [show w.heap.size+1+1+1=w.heap.size+3 from rfl,show w.heap.size+1+1=w.heap.size+2 from rfl];rw [hW] at bW ⊢;have zW0:w.heap.size < W.heap.size:=by omega
 have zW1:w.heap.size+1 < W.heap.size:=by omega
 have zW2:w.heap.size+2 < W.heap.size:=by omega
 obtain ⟨g,hg⟩:∃b,w.heap.size=b:=⟨_,rfl⟩;rw [hg] at p0 p1 p2 p3 q0 q1 q2 q3 u0 u1 u2 u3 v0 v1 v2 v3 x0 x1 x2 x3 r0 r1 r2 r3 rf0 rf1 rf2 rf3 zW zW0 zW1 zW2 ⊢;have HB:=qh bW;have HG:=qh hg;have K1:=qh (fun V (h:Below W.heap.size W V)=>RepF.below H1.o (ja0 bW h));have K2:=qh (fun V (h:Below W.heap.size W V)=>RepF.below H2.o (ja0 bW h));have K3:=qh (fun V (h:Below W.heap.size W V)=>RepF.below H3.o (ja0 bW h));have K4:=qh (fun V (h:Below W.heap.size W V)=>RepF.below H4.o (ja0 bW h));have K5:=qh (fun V (h:Below W.heap.size W V)=>RepF.below H5.o (ja0 bW h));clear hW bW hg;refine ja1 (fun w'=>Below W.heap.size W w') [19] (by kernel_rfl) ?_;refine tl [(0,[], .pointer (some ⟨g,4,none⟩)),(1,[],fv s2 A2 n2 c2 t2 B2 m2 d2),(2,[], .pointer (some ⟨g+1,4,none⟩)),(3,[],fv s4 A4 n4 c4 t4 B4 m4 d4),(4,[], .pointer (some ⟨g,4,none⟩)),(5,[],fv s2 A2 n2 c2 t2 B2 m2 d2),(7,[],fv s5 A5 n5 c5 t5 B5 m5 d5),(8,[], .pointer (some ⟨g,0,none⟩))] [_,_,_,_,_,_,_,_] rfl (by kernel_rfl) pk5 (by intros;simp only [tyq,ppq];go_simp) bq0 ?_;simp only [tlq,ppq];refine tl [(9,[],fv s1 A1 n1 c1 t1 B1 m1 d1),(12,[], .pointer (some ⟨g+1,0,none⟩)),(13,[],fv s3 A3 n3 c3 t3 B3 m3 d3),(14,[], .pointer (some ⟨g,0,none⟩)),(15,[],fv s1 A1 n1 c1 t1 B1 m1 d1)] [_,_,_,_,_] rfl (by kernel_rfl) pk5 (by intros;simp only [tyq,ppq];go_simp) bq0 ?_;simp only [tlq,ppq];refine rd1 6 (by kernel_rfl) rfl (fun K hK=> ?_);go_simp;go_wp2_with (go_at_call 45;(with_reducible refine mf0 (jeP 600 600 HP.o (K4.o _ bi) (K2.o _ bi) Z4.o Z2.o (by omega)) fun w11 s11 A11 n11 c11 t11 B11 m11 d11 hr11 hq11 hb11 hc11 hf11 _=> ?_))
 have sS11:=qh (bst bq0 hb11);refine hK.out _ _ (fun _=>sS11.o) ?_;clear hK K;refine rd1 10 (by kernel_rfl) rfl (fun K hK=> ?_);go_simp;go_wp2_with (go_at_call 45;(with_reducible refine mf0 (jeP 600 600 HR.o (K5.o _ bi) (K1.o _ bi) Z5.o Z1.o (by omega)) fun w12 s12 A12 n12 c12 t12 B12 m12 d12 hr12 hq12 hb12 hc12 hf12 _=> ?_))
 have sS12:=qh (bst sS11.o hb12);refine hK.out _ _ (fun _=>sS12.o) ?_;clear hK K;refine rd1 11 (by kernel_rfl) rfl (fun K hK=> ?_);go_simp;go_wp2_with (go_at_call 46;(with_reducible refine mf0 (jbO 1201 1201 HM.o (by constructor <;> (with_reducible repeat first|assumption|apply rZ|refine rP ?_ rfl (by simp [go_sem,hc12]))) ⟨hr12,hq12⟩ Y1.o Y2.o (by omega)) fun w13 s13 A13 n13 c13 t13 B13 m13 d13 hr13 hq13 hb13 hc13 hf13 _=> ?_))
 have sS13:=qh (bst sS12.o hb13);refine hK.out _ _ (fun _=>sS13.o) ?_;clear hK K;refine rd1 16 (by kernel_rfl) rfl (fun K hK=> ?_);go_simp;go_wp2_with (go_at_call 45;(with_reducible refine mf0 (jeP 600 600 HD.o (K3.o _ bi) (K1.o _ bi) Z3.o Z1.o (by omega)) fun w14 s14 A14 n14 c14 t14 B14 m14 d14 hr14 hq14 hb14 hc14 hf14 _=> ?_))
 have sS14:=qh (bst sS13.o hb14);refine hK.out _ _ (fun _=>sS14.o) ?_;clear hK K;refine rd1 17 (by kernel_rfl) rfl (fun K hK=> ?_);go_simp;go_wp2_with (go_at_call 47;(with_reducible refine mf0 (jeB 2402 1201 HQ.o (by constructor <;> (with_reducible repeat first|assumption|apply rZ|refine rP ?_ rfl (by simp [go_sem,hc14]))) ⟨hr14,hq14⟩ Y4.o Y3.o (by omega) HN2.o) fun w15 s15 A15 n15 c15 t15 B15 m15 d15 hr15 hq15 hb15 hc15 hf15 _=> ?_))
 have sS15:=qh (bst sS14.o hb15);refine hK.out _ _ (fun _=>sS15.o) ?_;clear hK K;refine rd1 18 (by kernel_rfl) rfl (fun K hK=> ?_);go_simp;go_wp2_with (go_at_call 44;(with_reducible refine mf0 (jo7 600 3603 HZ.o (K2.o _ bi) ⟨hr15,hq15⟩ Z2.o Y5.o (by omega)) fun w16 s16 A16 n16 c16 t16 B16 m16 d16 hr16 hq16 hb16 hc16 hf16 _=> ?_))
 have sS16:=qh (bst sS15.o hb16);refine hK.out _ _ (fun _=>sS16.o) ?_;clear hK K;have b16:RowKit.Below W.heap.size W w16:=bi;replace r0:=ja9 b16 r0;replace r1:=ja9 b16 r1;replace r2:=ja9 b16 r2;replace r3:=ja9 b16 r3;replace rf0:=(b16.frozen (p:=⟨g+3,0,none⟩) zW).trans rf0;replace rf1:=(b16.frozen (p:=⟨g+3,1,none⟩) zW).trans rf1;replace rf2:=(b16.frozen (p:=⟨g+3,2,none⟩) zW).trans rf2;replace rf3:=(b16.frozen (p:=⟨g+3,3,none⟩) zW).trans rf3;clear p0 p1 p2 p3 q0 q1 q2 q3 u0 u1 u2 u3 v0 v1 v2 v3 x0 x1 x2 x3 hc11 hc12 hc13 hc14 hc15 hc16 hf11 hf12 hf13 hf14 hf15 hf16;refine rd1 19 (by kernel_rfl) rfl (fun K hK=> ?_);go_simp;refine hK.out _ _ (fun h=>(h (by decide)).elim) ?_;clear hK K;refine ja2 (by kernel_rfl) ?_ _;go_wp2;have hp:w.heap.size≤g+3:=by rw [HG.o];exact Nat.le_add_right _ _
 have _:Bz w w16:=⟨ja0 HB.o b16⟩;have _:Sx w.heap.size (g+3):=⟨hp⟩;exact bodyPost_ret (v:= .agg #[.int .i64 (s16), .slice (A16) (n16) (c16), .int .i64 (t16), .slice (B16) (m16) (d16)]) (by simp [results,results104,go_sem,r0,r1,r2,r3]) rfl (jan rfl (by constructor <;> (with_reducible repeat first|assumption|apply rZ|refine rP ?_ rfl (by simp [go_sem,r0,r1,r2,r3]))) bi)
end

noncomputable def jzO (y:Rat):List (Rat×Rat)→Rat×Bool
 | []=>(0,false)
 | [p]=>if p.2=y then (p.1,true) else (0,false)
 | p::q::r=>if p.2=y then (p.1,true) else if Rq.cmpQ p.2 y*Rq.cmpQ q.2 y < 0 then (p.1+(q.1 - p.1)*(y - p.2) / (q.2 - p.2),true) else jzO y (q::r)
theorem jA2 {y:Rat} {qs:List (Rat×Rat)} {i:Nat} (h:i < qs.length):jzO y (qs.drop i)=if (qs.getD i (0,0)).2=y then ((qs.getD i (0,0)).1,true) else if i+1=qs.length then (0,false) else if Rq.cmpQ (qs.getD i (0,0)).2 y*Rq.cmpQ (qs.getD (i+1) (0,0)).2 y < 0 then ((qs.getD i (0,0)).1+((qs.getD (i+1) (0,0)).1 - (qs.getD i (0,0)).1)*(y - (qs.getD i (0,0)).2) / ((qs.getD (i+1) (0,0)).2 - (qs.getD i (0,0)).2),true) else jzO y (qs.drop (i+1)):=by
 rw [List.drop_eq_getElem_cons h,List.getD_eq_getElem?_getD,List.getElem?_eq_getElem h,Option.getD_some];by_cases h2:i+1=qs.length
 ·rw [List.drop_eq_nil_of_le (by omega),if_pos h2];rfl
 ·have h3:i+1 < qs.length:=by omega
  rw [List.drop_eq_getElem_cons h3,List.getD_eq_getElem?_getD,List.getElem?_eq_getElem h3,Option.getD_some,if_neg h2];rfl
section
variable {w:World} {A:Option Addr} {n c:Nat} {qs:List (Rat×Rat)} {s0 t0:Int} {A0 B0:Option Addr} {n0 c0 m0 d0:Nat} {y:Rat}
set_option maxHeartbeats 32000000 in
theorem jzo {R:Rat×Bool} (h:Ptv w A n qs) (hn:n≤100) (hq:∀j,j < n→Sz 600 (qs.getD j (0,0)).1∧Sz 600 (qs.getD j (0,0)).2) (hy:RepF w s0 A0 n0 c0 t0 B0 m0 d0 y) (zy:Sz 600 y) (hR:jzO y qs=R):
  Calls prog 56 #[.slice A n c,fv s0 A0 n0 c0 t0 B0 m0 d0] w fun e w'=>∃s A n c t B m d,e= .returned (.tuple #[fv s A n c t B m d, .bool R.2])∧RepF w' s A n c t B m d R.1∧Below w.heap.size w w':=by
 obtain ⟨R1,R2⟩:=R;have H:=qh h;have HN:=qh (ai hn hq);have HY:=qh hy;have HZ:=qh zy;have HR:=qh hR;have HR0:=qh (show R64 0 by constructor <;> decide);clear h hn hq hy zy hR;go_enter func56,ntmps56;go_wp2;have bW:Below w.heap.size w ((w.alloc (.cells #[.int .i64 s0, .slice A0 n0 c0, .int .i64 t0, .slice B0 m0 d0] 85)).alloc (.cells #[.int .i64 0, .slice none 0 0, .int .i64 0, .slice none 0 0] 85)):=bi;obtain ⟨W,hW⟩:∃W,((w.alloc (.cells #[.int .i64 s0, .slice A0 n0 c0, .int .i64 t0, .slice B0 m0 d0] 85)).alloc (.cells #[.int .i64 0, .slice none 0 0, .int .i64 0, .slice none 0 0] 85))=W:=⟨_,rfl⟩;have y0:W.cell? ⟨w.heap.size,0,none⟩=some (.int .i64 s0):=by rw [←hW];simp [go_sem]
 have y1:W.cell? ⟨w.heap.size,1,none⟩=some (.slice A0 n0 c0):=by rw [←hW];simp [go_sem]
 have y2:W.cell? ⟨w.heap.size,2,none⟩=some (.int .i64 t0):=by rw [←hW];simp [go_sem]
 have y3:W.cell? ⟨w.heap.size,3,none⟩=some (.slice B0 m0 d0):=by rw [←hW];simp [go_sem]
 have r0:W.cell? ⟨w.heap.size+1,0,none⟩=some (.int .i64 0):=by rw [←hW];simp [go_sem]
 have r1:W.cell? ⟨w.heap.size+1,1,none⟩=some (.slice none 0 0):=by rw [←hW];simp [go_sem]
 have r2:W.cell? ⟨w.heap.size+1,2,none⟩=some (.int .i64 0):=by rw [←hW];simp [go_sem]
 have r3:W.cell? ⟨w.heap.size+1,3,none⟩=some (.slice none 0 0):=by rw [←hW];simp [go_sem]
 have rf:∀o,W.frozen? ⟨w.heap.size+1,o,none⟩=false:=by intro o;rw [←hW];simp [go_sem]
 have zW:w.heap.size+1 < W.heap.size:=by rw [←hW];simp
 rw [hW] at bW ⊢;obtain ⟨g,hg⟩:∃b,w.heap.size=b:=⟨_,rfl⟩;rw [hg] at y0 y1 y2 y3 r0 r1 r2 r3 rf zW ⊢;have zW0:g < W.heap.size:=by omega
 have HB:=qh bW;have HG:=qh hg;have HC:=qh (ai (show W.cell? ⟨g,0,none⟩=some (.int .i64 s0)∧W.cell? ⟨g,1,none⟩=some (.slice A0 n0 c0)∧W.cell? ⟨g,2,none⟩=some (.int .i64 t0)∧W.cell? ⟨g,3,none⟩=some (.slice B0 m0 d0) from ⟨y0,y1,y2,y3⟩) (show FC W (g+1) ((0,none,0,0),0,none,0,0) from ⟨r0,r1,r2,r3,rf⟩));have HYR:=qh (fun V (h:Below W.heap.size W V)=>RepF.below HY.o (ja0 bW h));have HPT:=qh (fun V (h:Below W.heap.size W V)=>Ptv.below H.o (ja0 bW h));have HZW:=qh (ai zW0 zW);clear hW bW hg y0 y1 y2 y3 r0 r1 r2 r3 rf zW zW0 H HY
 go_loopw [11] (fun u wr=>∃(i:Nat),u= .int .i64 (i:Int)∧i≤n∧Below W.heap.size W wr∧jzO y (qs.drop i)=(R1,R2)) (fun u _=>n - (intOf u).toNat)
 case atStart=>exact ⟨0,rfl,Nat.zero_le _,bR,HR.o⟩
 case round=>
  obtain ⟨i,rfl,hin,hb,hI⟩:=hrel;have _:=bm hb;obtain ⟨hnn,hq⟩:=HN.o;obtain ⟨⟨y0,y1,y2,y3⟩,hF⟩:=HC.o;replace y0:=ja9 hb y0;replace y1:=ja9 hb y1;replace y2:=ja9 hb y2;replace y3:=ja9 hb y3;have HF:=qh (hF.below hb);have hFr:=hF.below hb;have hlen:=(HPT.o wr hb).len;have zg:g < wr.heap.size:=Nat.lt_of_lt_of_le HZW.o.1 hb.size;have zg1:g+1 < wr.heap.size:=Nat.lt_of_lt_of_le HZW.o.2 hb.size;obtain ⟨r0,r1,r2,r3,rf⟩:=hFr;dsimp only at r0 r1 r2 r3;have rf0:=rf 0;have rf1:=rf 1;have rf2:=rf 2;have rf3:=rf 3;clear rf hF;by_cases hi:i < n
  ·have q0:decide ((i:Int) < (n:Int))=true:=by simp;exact hi
   have q9:decide (i < n)=true:=by simpa using hi
   obtain ⟨b,o,rfl,hbl,hcell⟩:=(HPT.o wr hb).at_ (by omega);obtain ⟨⟨P1,P2⟩,hc,hrp⟩:=hcell i hi;obtain ⟨⟨s1,A1,n1,c1⟩,t1,B1,m1,d1⟩:=P1;obtain ⟨⟨s2,A2,n2,c2⟩,t2,B2,m2,d2⟩:=P2;have k0:=hc 0 _ rfl;have k1:=hc 1 _ rfl;have k2:=hc 2 _ rfl;have k3:=hc 3 _ rfl;have k4:=hc 4 _ rfl;have k5:=hc 5 _ rfl;have k6:=hc 6 _ rfl;have k7:=hc 7 _ rfl;rw [Nat.add_zero] at k0;rw [jA2 (by omega)] at hI;obtain ⟨x1,hx1⟩:∃z,(qs.getD i (0,0)).1=z:=⟨_,rfl⟩;obtain ⟨x2,hx2⟩:∃z,(qs.getD i (0,0)).2=z:=⟨_,rfl⟩;obtain ⟨zx1,zx2⟩:=hq i hi;rw [hx1,hx2] at hI;rw [hx1] at zx1;rw [hx2] at zx2;have hr1:RepF wr s1 A1 n1 c1 t1 B1 m1 d1 x1:=hx1 ▸ hrp.1;have hr2:RepF wr s2 A2 n2 c2 t2 B2 m2 d2 x2:=hx2 ▸ hrp.2;obtain ⟨j1,hj1⟩:∃j,Rq.cmpQ x2 y=j:=⟨_,rfl⟩;have HJ1:=qh hj1;have HZ1:=qh zx1;have HZ2:=qh zx2;have HR1:=qh hr1;have HR2:=qh hr2;have HYW:=qh (HYR.o wr hb);have HBB:=qh (ja0 HB.o hb);have HBW:=qh hb;have hnx:i+1 < n→∃(q:PT),(∀k u,(ptc q)[k]? =some u→wr.cell? ⟨b,o+(i+1)*8+k,none⟩=some u)∧jwy wr q (qs.getD (i+1) (0,0)):=fun h=>hcell (i+1) h
   have HNX:=qh hnx;have HI:=qh (ai hi (ai hI hlen));have HQ:=qh hq;clear hrp hc hcell hq hr1 hr2 hx1 hx2 zx1 zx2 hnx;go_upto_region 4 with (fail)
   have hpb:∀k u,(ptc (((s1,A1,n1,c1),t1,B1,m1,d1),((s2,A2,n2,c2),t2,B2,m2,d2)))[k]? =some u→(wr.alloc (.cells #[.int .i64 s1, .slice A1 n1 c1, .int .i64 t1, .slice B1 m1 d1, .int .i64 s2, .slice A2 n2 c2, .int .i64 t2, .slice B2 m2 d2] 91)).cell? ⟨wr.heap.size,k,none⟩=some u:=fun k u hu=>by simpa [go_sem,ptc,fts] using hu
   have bV:RowKit.Below wr.heap.size wr (wr.alloc (.cells #[.int .i64 s1, .slice A1 n1 c1, .int .i64 t1, .slice B1 m1 d1, .int .i64 s2, .slice A2 n2 c2, .int .i64 t2, .slice B2 m2 d2] 91)):=bA bR;obtain ⟨V,hV⟩:∃V,wr.alloc (.cells #[.int .i64 s1, .slice A1 n1 c1, .int .i64 t1, .slice B1 m1 d1, .int .i64 s2, .slice A2 n2 c2, .int .i64 t2, .slice B2 m2 d2] 91)=V:=⟨_,rfl⟩;rw [hV] at hpb bV ⊢;obtain ⟨gp,hgp⟩:∃g,wr.heap.size=g:=⟨_,rfl⟩;rw [hgp] at hpb ⊢;have HVB:=qh bV;have HPB:=qh hpb;replace y0:=ja9 bV y0;replace y1:=ja9 bV y1;replace y2:=ja9 bV y2;replace y3:=ja9 bV y3;have e4:=hpb 4 _ rfl;have e5:=hpb 5 _ rfl;have e6:=hpb 6 _ rfl;have e7:=hpb 7 _ rfl;clear hV hgp k0 k1 k2 k3 k4 k5 k6 k7 r0 r1 r2 r3 rf0 rf1 rf2 rf3 zg1 zg bV hpb hb
   go_upto_if 20 with (go_at_call 41;(with_reducible refine mo0 (jd7 600 600 HJ1.o (RepF.below HR2.o (ja0 HVB.o bi)) (RepF.below HYW.o (ja0 HVB.o bi)) HZ2.o HZ.o (by omega)) fun w1 hb1 hc1 hf1 _=> ?_))
   have b1:RowKit.Below V.heap.size V w1:=bi;have bw:=ja0 HVB.o b1;have hF:=HF.o.below bw;have HF1:=qh hF;have HBW1:=qh (ja0 HBB.o bw);have HB1:=qh b1;have HR1':=qh (RepF.below HR1.o bw);have HP1:=qh (fun k u (h:(ptc (((s1,A1,n1,c1),t1,B1,m1,d1),((s2,A2,n2,c2),t2,B2,m2,d2)))[k]? =some u)=>ja9 b1 (HPB.o k u h));have HYB:=qh (ai (ja9 b1 y0) (ai (ja9 b1 y1) (ai (ja9 b1 y2) (ja9 b1 y3))));have HWB:=qh bw;clear y0 y1 y2 y3 e4 e5 e6 e7 hc1 hf1 hb1 b1 bw HF HPB;obtain ⟨hi,hI,hlen⟩:=HI.o;by_cases e:x2=y
   ·rw [if_pos e] at hI;obtain rfl:x1=R1:=(Prod.mk.inj hI).1;obtain rfl:true=R2:=(Prod.mk.inj hI).2;have q1:(j1==0)=true:=by rw [←hj1,e];simp [Rq.cmpQ]
    have e0:=HP1.o 0 _ rfl;have e1:=HP1.o 1 _ rfl;have e2:=HP1.o 2 _ rfl;have e3:=HP1.o 3 _ rfl;obtain ⟨r0,r1,r2,r3,rf⟩:=hF;dsimp only at r0 r1 r2 r3;have rf0:=rf 0;have rf1:=rf 1;have rf2:=rf 2;have rf3:=rf 3;clear hI hj1 e rf;go_wp2;have hT:=HF1.o.setR (s:=s1) (A:=A1) (n:=n1) (c:=c1) (t:=t1) (B:=B1) (m:=m1) (d:=d1);have h0:=hT.c0;have h1:=hT.c1;have h2:=hT.c2;have h3:=hT.c3;dsimp only at h0 h1 h2 h3;exact bodyPost_ret (v:= .tuple #[fv s1 A1 n1 c1 t1 B1 m1 d1, .bool true]) (by simp [results,results56,go_sem,r0,r1,r2,r3]) rfl ⟨s1,A1,n1,c1,t1,B1,m1,d1,rfl,HF1.o.repR (p:=((s1,A1,n1,c1),t1,B1,m1,d1)) HR1'.o,jzf HBW1.o (by rw [HG.o];exact Nat.le_succ _)⟩
   ·rw [if_neg e] at hI
    have q1:(j1==0)=false:=by
     rw [beq_eq_false_iff_ne,←hj1];intro z;unfold Rq.cmpQ at z;split at z
     ·cases z
     ·split at z
      ·cases z
      ·exact e (by grind)
    by_cases e2:i+1=n
    ·rw [if_pos (by omega)] at hI;obtain rfl:(0:Rat)=R1:=(Prod.mk.inj hI).1;obtain rfl:false=R2:=(Prod.mk.inj hI).2;have q2:((i:Int)+1==(n:Int))=true:=by rw [beq_iff_eq];omega
     obtain ⟨r0,r1,r2,r3,rf⟩:=hF;dsimp only at r0 r1 r2 r3;have rf0:=rf 0;have rf1:=rf 1;have rf2:=rf 2;have rf3:=rf 3;have zg:=HF1.o.lt;clear hI hj1 e rf e2 hlen;go_wp2_with (go_at_call 43;(with_reducible refine mf0 (jes (x:=0) rfl HR0.o) fun w9 s9 A9 n9 c9 t9 B9 m9 d9 hr9 hq9 hb9 hc9 hf9 _=> ?_))
     have b9:RowKit.Below w1.heap.size w1 w9:=bi;have hF9:=HF1.o.below b9
     first|rw [Exit.noGoto_ret]|skip
     exact bodyPost_ret (v:= .tuple #[fv s9 A9 n9 c9 t9 B9 m9 d9, .bool false]) (by simp [results,results56,go_sem,hc9,zg,r0,r1,r2,r3]) rfl ⟨s9,A9,n9,c9,t9,B9,m9,d9,rfl,hF9.repR (p:=((s9,A9,n9,c9),t9,B9,m9,d9)) ⟨hr9,hq9⟩,jzf (ja0 HBW1.o b9) (by rw [HG.o];exact Nat.le_succ _)⟩
    ·rw [if_neg (by omega)] at hI;have hi1:i+1 < n:=by omega
     have q2:((i:Int)+1==(n:Int))=false:=by rw [beq_eq_false_iff_ne];omega
     have mm1:IntKind.i64.wrap ((i:Int)+1)=((i+1:Nat):Int):=by simp [IntKind.wrap,IntKind.bits,IntKind.signed];omega
     obtain ⟨⟨P3,P4⟩,hc,hrp⟩:=HNX.o hi1;obtain ⟨⟨s3,A3,n3,c3⟩,t3,B3,m3,d3⟩:=P3;obtain ⟨⟨s4,A4,n4,c4⟩,t4,B4,m4,d4⟩:=P4;have k0:=ja9 HWB.o (hc 0 _ rfl);have k1:=ja9 HWB.o (hc 1 _ rfl);have k2:=ja9 HWB.o (hc 2 _ rfl);have k3:=ja9 HWB.o (hc 3 _ rfl);have k4:=ja9 HWB.o (hc 4 _ rfl);have k5:=ja9 HWB.o (hc 5 _ rfl);have k6:=ja9 HWB.o (hc 6 _ rfl);have k7:=ja9 HWB.o (hc 7 _ rfl);rw [Nat.add_zero] at k0;obtain ⟨x3,hx3⟩:∃z,(qs.getD (i+1) (0,0)).1=z:=⟨_,rfl⟩;obtain ⟨x4,hx4⟩:∃z,(qs.getD (i+1) (0,0)).2=z:=⟨_,rfl⟩;obtain ⟨zx3,zx4⟩:=HQ.o (i+1) hi1;rw [hx3,hx4] at hI;rw [hx3] at zx3;rw [hx4] at zx4;have hr3:RepF wr s3 A3 n3 c3 t3 B3 m3 d3 x3:=hx3 ▸ hrp.1;have hr4:RepF wr s4 A4 n4 c4 t4 B4 m4 d4 x4:=hx4 ▸ hrp.2;have HR3:=qh (RepF.below hr3 HWB.o);have HR4:=qh (RepF.below hr4 HWB.o);have HZ3:=qh zx3;have HZ4:=qh zx4;have q3:decide (i+1 < n)=true:=by simpa using hi1
     clear hc hrp hr3 hr4 hx3 hx4 zx3 zx4 hF;go_upto_region 8 with (fail)
     have hqb:∀k u,(ptc (((s3,A3,n3,c3),t3,B3,m3,d3),((s4,A4,n4,c4),t4,B4,m4,d4)))[k]? =some u→(w1.alloc (.cells #[.int .i64 s3, .slice A3 n3 c3, .int .i64 t3, .slice B3 m3 d3, .int .i64 s4, .slice A4 n4 c4, .int .i64 t4, .slice B4 m4 d4] 91)).cell? ⟨w1.heap.size,k,none⟩=some u:=fun k u hu=>by simpa [go_sem,ptc,fts] using hu
     have bX:RowKit.Below w1.heap.size w1 (w1.alloc (.cells #[.int .i64 s3, .slice A3 n3 c3, .int .i64 t3, .slice B3 m3 d3, .int .i64 s4, .slice A4 n4 c4, .int .i64 t4, .slice B4 m4 d4] 91)):=bA bR;obtain ⟨X,hX⟩:∃V,w1.alloc (.cells #[.int .i64 s3, .slice A3 n3 c3, .int .i64 t3, .slice B3 m3 d3, .int .i64 s4, .slice A4 n4 c4, .int .i64 t4, .slice B4 m4 d4] 91)=V:=⟨_,rfl⟩;rw [hX] at hqb bX ⊢;obtain ⟨gq,hgq⟩:∃g,w1.heap.size=g:=⟨_,rfl⟩;rw [hgq] at hqb ⊢;obtain ⟨y0,y1,y2,y3⟩:=HYB.o;replace y0:=ja9 bX y0;replace y1:=ja9 bX y1;replace y2:=ja9 bX y2;replace y3:=ja9 bX y3;have hpx:=fun k u h=>ja9 bX (HP1.o k u h)
     have e4:=hpx 4 _ rfl;have e5:=hpx 5 _ rfl;have e6:=hpx 6 _ rfl;have e7:=hpx 7 _ rfl;have f4:=hqb 4 _ rfl;have f5:=hqb 5 _ rfl;have f6:=hqb 6 _ rfl;have f7:=hqb 7 _ rfl;have zy:=World.block_lt_of_cell? X _ y0;have zp:=World.block_lt_of_cell? X _ e4;have zq:=World.block_lt_of_cell? X _ f4;dsimp only at zy zp zq;have HXB:=qh (ja0 HBW1.o bX);have HBX:=qh bX;have HWX:=qh (ja0 HWB.o bX);have HPX:=qh hpx;have HQX:=qh hqb;have HFX:=qh (HF1.o.below bX);have HYX:=qh (RepF.below HYW.o (ja0 HWB.o bX));have HR1X:=qh (RepF.below HR1'.o bX);have HR2X:=qh (RepF.below HR2.o (ja0 HWB.o bX));have HR3X:=qh (RepF.below HR3.o bX);have HR4X:=qh (RepF.below HR4.o bX);obtain ⟨j2,hj2⟩:∃j,Rq.cmpQ x4 y=j:=⟨_,rfl⟩;have HJ2:=qh hj2;rw [hj1,hj2] at hI
     have mm2:IntKind.i64.wrap (j1*j2)=j1*j2:=by
      have a1:j1= -1∨j1=0∨j1=1:=by rw [←hj1];unfold Rq.cmpQ;split <;> (try split) <;> simp
      have a2:j2= -1∨j2=0∨j2=1:=by rw [←hj2];unfold Rq.cmpQ;split <;> (try split) <;> simp
      rcases a1 with rfl|rfl|rfl <;> rcases a2 with rfl|rfl|rfl <;> decide
     have HI2:=qh (ai hI e);clear hX hgq k0 k1 k2 k3 k4 k5 k6 k7 hqb bX hpx hI hj2 HYB HF1 HP1 HNX;have HYB3:=qh (ai y0 (ai y1 (ai y2 y3)));obtain ⟨fl,hfl⟩:∃f,decide (j1*j2 < 0)=f:=⟨_,rfl⟩;have HFL:=qh hfl;refine ja1 (fun w'=>Below X.heap.size X w') [] (by kernel_rfl) ?_;refine tl [(0,[], .pointer (some ⟨gp,4,none⟩)),(1,[],fv s2 A2 n2 c2 t2 B2 m2 d2),(2,[],fv s0 A0 n0 c0 t0 B0 m0 d0),(4,[], .pointer (some ⟨gq,4,none⟩)),(5,[],fv s4 A4 n4 c4 t4 B4 m4 d4),(6,[],fv s0 A0 n0 c0 t0 B0 m0 d0)] [_,_,_,_,_,_] rfl (by kernel_rfl) pk5 (by intros;simp only [tyq,ppq];go_simp) bq0 ?_;simp only [tlq,ppq];refine rd1 3 (by kernel_rfl) rfl (fun K hK=> ?_);go_simp;go_wp2_with (go_at_call 41;(with_reducible refine mo0 (jd7 600 600 HJ1.o (HR2X.o.below bi) (HYX.o.below bi) HZ2.o HZ.o (by omega)) fun w2 hb2 hc2 hf2 _=> ?_))
     have sS2:=qh (bst bq0 hb2);refine hK.out _ _ (fun _=>sS2.o) ?_;clear hK K;refine rd1 7 (by kernel_rfl) rfl (fun K hK=> ?_);go_simp;go_wp2_with (go_at_call 41;(with_reducible refine mo0 (jd7 600 600 HJ2.o (HR4X.o.below bi) (HYX.o.below bi) HZ4.o HZ.o (by omega)) fun w3 hb3 hc3 hf3 _=> ?_))
     have sS3:=qh (bst sS2.o hb3);refine hK.out _ _ (fun _=>sS3.o) ?_;clear hK K;refine rd1 8 (by kernel_rfl) rfl (fun K hK=> ?_);go_simp;refine hK.out _ _ (fun _=>bi) ?_;clear hK K;refine rd1 9 (by kernel_rfl) rfl (fun K hK=> ?_);go_simp;refine hK.out _ _ (fun _=>bi) ?_;clear hK K;refine ja2 (by kernel_rfl) ?_ _;have b3:RowKit.Below X.heap.size X w3:=bi;clear y0 y1 y2 y3 e4 e5 e6 e7 f4 f5 f6 f7 hc2 hf2 hc3 hf3 hb2 hb3;obtain ⟨hI,e⟩:=HI2.o;clear hfl mm2;cases fl with
     | true=>
       have e5:j1*j2 < 0:=by simpa using HFL.o
       rw [if_pos e5] at hI;obtain rfl:=(Prod.mk.inj hI).1;obtain rfl:true=R2:=(Prod.mk.inj hI).2
       have hne:x4 - x2≠0:=by
        intro q;have q2:x4=x2:=by grind
        rw [←HJ1.o,←HJ2.o,q2] at e5;have:0≤Rq.cmpQ x2 y*Rq.cmpQ x2 y:=by unfold Rq.cmpQ;split <;> (try split) <;> decide
        omega
       have HNE:=qh hne;have HB3:=qh b3;have yb:=HYB3.o;replace yb:=ai (ja9 b3 yb.1) (ai (ja9 b3 yb.2.1) (ai (ja9 b3 yb.2.2.1) (ja9 b3 yb.2.2.2)));obtain ⟨y0,y1,y2,y3⟩:=yb;have e0:=ja9 b3 (HPX.o 0 _ rfl);have e1:=ja9 b3 (HPX.o 1 _ rfl);have e2:=ja9 b3 (HPX.o 2 _ rfl);have e3:=ja9 b3 (HPX.o 3 _ rfl);have e4:=ja9 b3 (HPX.o 4 _ rfl);have e5':=ja9 b3 (HPX.o 5 _ rfl);have e6:=ja9 b3 (HPX.o 6 _ rfl);have e7:=ja9 b3 (HPX.o 7 _ rfl);have f0:=ja9 b3 (HQX.o 0 _ rfl);have f1:=ja9 b3 (HQX.o 1 _ rfl);have f2:=ja9 b3 (HQX.o 2 _ rfl);have f3:=ja9 b3 (HQX.o 3 _ rfl);have f4:=ja9 b3 (HQX.o 4 _ rfl);have f5:=ja9 b3 (HQX.o 5 _ rfl);have f6:=ja9 b3 (HQX.o 6 _ rfl);have f7:=ja9 b3 (HQX.o 7 _ rfl);have L1:=qh (HR1X.o.below b3);have L2:=qh (HR2X.o.below b3);have L3:=qh (HR3X.o.below b3);have L4:=qh (HR4X.o.below b3);have L0:=qh (HYX.o.below b3);have HF3:=qh (HFX.o.below b3);have HXB3:=qh (ja0 HXB.o b3);have hF:=HF3.o;obtain ⟨r0,r1,r2,r3,rf⟩:=hF;dsimp only at r0 r1 r2 r3;have rf0:=rf 0;have rf1:=rf 1;have rf2:=rf 2;have rf3:=rf 3;have zg:=HF3.o.lt;clear hI hne e5 b3 rf;go_wp2_with (go_at_call 104;(with_reducible refine mf0 (jzE L2.o L1.o L4.o L3.o L0.o HZ2.o HZ1.o HZ4.o HZ3.o HZ.o HNE.o rfl) fun w14 s14 A14 n14 c14 t14 B14 m14 d14 hr14 hq14 hb14 hc14 hf14 _=> ?_))
       have b14:RowKit.Below w3.heap.size w3 w14:=bi;have hF14:=HF3.o.below b14;exact bodyPost_ret (v:= .tuple #[fv s14 A14 n14 c14 t14 B14 m14 d14, .bool true]) (by simp [results,results56,go_sem,hc14,zg,r0,r1,r2,r3]) rfl ⟨s14,A14,n14,c14,t14,B14,m14,d14,rfl,hF14.repR (p:=((s14,A14,n14,c14),t14,B14,m14,d14)) ⟨hr14,hq14⟩,jzf (ja0 HXB3.o b14) (by rw [HG.o];exact Nat.le_succ _)⟩
     | false=>
       have e5:¬j1*j2 < 0:=by simpa using HFL.o
       rw [if_neg e5] at hI;have HII:=qh hI;have HB3:=qh (ja0 HWX.o b3);clear hI e5 b3;go_wp2;exact ⟨⟨i+1,by simp,Nat.le_of_lt hi1,ja0 HBW.o HB3.o,HII.o⟩,by simp [intOf];omega⟩
  ·have q0:decide (i < n)=false:=by simp;omega
   obtain rfl:i=n:=by omega
   rw [List.drop_eq_nil_of_le (by omega)] at hI;obtain rfl:(0:Rat)=R1:=(Prod.mk.inj hI).1;obtain rfl:false=R2:=(Prod.mk.inj hI).2;have HBB:=qh (ja0 HB.o hb);clear hI hi hb hq hlen y0 y1 y2 y3;go_wp2_with (go_at_call 43;(with_reducible refine mf0 (jes (x:=0) rfl HR0.o) fun w9 s9 A9 n9 c9 t9 B9 m9 d9 hr9 hq9 hb9 hc9 hf9 _=> ?_))
   exact bodyPost_ret (v:= .tuple #[fv s9 A9 n9 c9 t9 B9 m9 d9, .bool false]) (by simp [results,results56,go_sem,hc9,zg1,r0,r1,r2,r3]) rfl ⟨_,_,_,_,_,_,_,_,rfl,(by constructor <;> (with_reducible repeat first|assumption|apply rZ|refine rP ?_ rfl (by simp [go_sem,hc9,zg1,r0,r1,r2,r3]))),jzf (ja0 HBB.o hb9) (by rw [HG.o];exact Nat.le_succ _)⟩
end
end Go.Proofs.YtpkcjfpgemdfdaaGreatDoor
