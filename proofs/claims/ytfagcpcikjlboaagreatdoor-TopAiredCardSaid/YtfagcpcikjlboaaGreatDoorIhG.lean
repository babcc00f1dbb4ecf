/- Parts. -/
import Derived.Test.YtfagcpcikjlboaaGreatDoorIeG
import Derived.Deep.LoopGhost
set_option linter.all false
set_option maxRecDepth 100000
set_option maxHeartbeats 8000000
namespace Go.Proofs.YtfagcpcikjlboaaGreatDoor
open Go Go.RowKit Go.Proofs.Tryz

section
variable {s a t b:Int} {A B:Option Addr} {n c m d:Nat} {w:World}
theorem jdM (h:Rep w s A n c a) (h':Rep w t B m d b) (hl:Lim a) (hl':Lim b) (hp:0 < b):
  Calls prog 164 #[iv s A n c,iv t B m d] w (jcU (a / b) (a % b) w):=by
 rcases A with _|p
 ·rcases B with _|q
  ·by_cases hm:s= -9223372036854775808
   ·exact jcM (Or.inr (Or.inr ⟨rfl,rfl,hm⟩)) h h' hl hl' hp
   ·obtain ⟨rfl,rfl,rfl,ha⟩:=h.none_;obtain ⟨rfl,rfl,rfl,hb⟩:=h'.none_;exact jjh _ _ w ha hb hm hp
  ·exact jcM (Or.inr (Or.inl ⟨rfl,q,rfl⟩)) h h' hl hl' hp
 ·exact jcM (Or.inl ⟨p,rfl⟩) h h' hl hl' hp

theorem jdt {s a x:Int} {A:Option Addr} {n c:Nat} {w:World} (hx: -a=x) (h:Rep w s A n c a):Calls prog 125 #[iv s A n c] w (ja7 x w):=hx ▸ neg_num h
theorem jeW {s t a b q:Int} {A B:Option Addr} {n c m d:Nat} {w:World} (hq:a / b=q) (h:Rep w s A n c a) (h':Rep w t B m d b) (hl:Lim a) (hl':Lim b) (hp:0 < b):
  Calls prog 164 #[iv s A n c,iv t B m d] w (jcU q (a % b) w):=hq ▸ jdM h h' hl hl' hp

theorem jsX (h:Rep w s A n c a) (h':Rep w t B m d b) (hl:Lim a) (hl':Lim b) (hp:0 < b):
  Calls prog 126 #[iv s A n c,iv t B m d] w (ja7 (a / b) w):=by
 have HR1:=qh (show ∀W,Below w.heap.size w W→Rep W s A n c a from fun W hb=>h.below hb);have HR2:=qh (show ∀W,Below w.heap.size w W→Rep W t B m d b from fun W hb=>h'.below hb);have HL1:=qh hl;have HL2:=qh hl';have HS:=qh (show sgn b=1 by unfold sgn;rw [if_neg (by omega),if_pos hp]);have HP:=qh hp;clear h h' hl hl' hp;go_enter func126,ntmps126
 go_wp2_with (first
  | (go_at_call 119;(with_reducible refine mo3 w (jaR HS.o (HR2.o _ bi)) (by go_size) fun w1 hb1 hc1 hf1 z1_0 z1_1 z1_2 _=> ?_))
  | (go_at_call 164;(with_reducible refine (jdM (HR1.o _ bi) (HR2.o _ bi) HL1.o HL2.o HP.o).mono ?_);rintro e2 w2 ⟨s2,A2,n2,c2,t2,B2,m2,d2,rfl,hr2,hq2,hb2⟩;obtain ⟨hc2,hf2,z2_0,z2_1,z2_2,_⟩:=bc3 w hb2 (by go_size)))
 exact bodyPost_ret (v:= .agg #[.int .i64 (s2), .slice (A2) (n2) (c2)]) (by simp [results,results126,go_sem,hc2,z1_2,hc1,z2_0,z2_1,z2_2,nl z2_0,nl z2_1,nl z2_2]) rfl (jaf rfl ((by with_reducible repeat first|assumption|apply rZ|refine rP ?_ rfl (by simp [go_sem,hc2,z1_2,hc1,z2_0,z2_1,z2_2,nl z2_0,nl z2_1,nl z2_2]))) bi)

theorem jrl (h:Rep w s A n c a) (h':Rep w t B m d b) (hl:Lim a) (hl':Lim b) (hp:b < 0) (z y x:Int) (hx:x= -a) (hy:y= -b) (hz:z=x / y):
  Calls prog 126 #[iv s A n c,iv t B m d] w (ja7 z w):=by
 have HR1:=qh (show ∀W,Below w.heap.size w W→Rep W s A n c a from fun W hb=>h.below hb);have HR2:=qh (show ∀W,Below w.heap.size w W→Rep W t B m d b from fun W hb=>h'.below hb);have HL1:=qh (hx ▸ hl.neg:Lim x);have HL2:=qh (hy ▸ hl'.neg:Lim y);have HX:=qh hx.symm;have HY:=qh hy.symm;have HZ:=qh hz.symm;have HS:=qh (show sgn b= -1 by unfold sgn;rw [if_pos hp]);have HP:=qh (show 0 < y by omega);clear h h' hl hl' hp hx hy hz;go_enter func126,ntmps126
 go_wp2_with (first
  | (go_at_call 119;(with_reducible refine mo3 w (jaR HS.o (HR2.o _ bi)) (by go_size) fun w1 hb1 hc1 hf1 z1_0 z1_1 z1_2 _=> ?_)))
 refine ja1 (fun w'=>Below w1.heap.size w1 w') [4,5] (by kernel_rfl) ?_;refine jaw [1] (i:=0) (v:= .agg #[.int .i64 s, .slice A n c]) rfl (by kernel_rfl) (by kernel_rfl) (by kernel_rfl) (by kernel_rfl) (by kernel_rfl) (fun _ _ _ h=>h) (Or.inl ⟨by rfl, ?_⟩) bi ?_
 ·intro w' hS';obtain ⟨hcS,hfS⟩:=jhL hS';go_simp
 simp only [Act.put,List.setIfInBounds_toArray,List.set_cons_zero,List.set_cons_succ];refine jaw [3] (i:=2) (v:= .agg #[.int .i64 t, .slice B m d]) rfl (by kernel_rfl) (by kernel_rfl) (by kernel_rfl) (by kernel_rfl) (by kernel_rfl) (fun _ _ _ h=>h) (Or.inl ⟨by rfl, ?_⟩) bi ?_
 ·intro w' hS';obtain ⟨hcS,hfS⟩:=jhL hS';go_simp
 simp only [Act.put,List.setIfInBounds_toArray,List.set_cons_zero,List.set_cons_succ];refine ja4 (rs:=[1]) (by kernel_rfl) (by simp) (AllT.cons rfl (fun K hK=> ?_) AllT.nil);go_simp;go_wp2_with (go_at_call 125;(with_reducible refine mi3 w (jdt HX.o (HR1.o _ bi)) (by go_size) fun w3 s3 A3 n3 c3 hr3 hb3 hc3 hf3 z3_0 z3_1 z3_2 _=> ?_))
 refine hK.out _ _ (fun _=>bi) ?_;clear hK K;refine ja4 (rs:=[3]) (by kernel_rfl) (by simp) (AllT.cons rfl (fun K hK=> ?_) AllT.nil);go_simp;go_wp2_with (go_at_call 125;(with_reducible refine mi3 w (jdt HY.o (HR2.o _ bi)) (by go_size) fun w4 s4 A4 n4 c4 hr4 hb4 hc4 hf4 z4_0 z4_1 z4_2 _=> ?_))
 refine hK.out _ _ (fun _=>bi) ?_;clear hK K;refine ja4 (rs:=[4]) (by kernel_rfl) (by simp) (AllT.cons rfl (fun K hK=> ?_) AllT.nil);go_simp;refine hK.out _ _ (fun h=>(h (by decide)).elim) ?_;clear hK K;refine ja4 (rs:=[5]) (by kernel_rfl) (by simp) (AllT.cons rfl (fun K hK=> ?_) AllT.nil);go_simp;refine hK.out _ _ (fun h=>(h (by decide)).elim) ?_;clear hK K;refine ja2 (by kernel_rfl) ?_ _;have f0:w4.cell? ⟨w.heap.size,0,none⟩=some (.int .i64 s):=by simp [go_sem,hc4,hc3,hc1,z4_0,z4_1,z4_2,z3_0,z3_1,z3_2,z1_0,z1_1,z1_2]
 have f1:w4.cell? ⟨w.heap.size,1,none⟩=some (.slice A n c):=by simp [go_sem,hc4,hc3,hc1,z4_0,z4_1,z4_2,z3_0,z3_1,z3_2,z1_0,z1_1,z1_2]
 have f2:w4.cell? ⟨w.heap.size+1,0,none⟩=some (.int .i64 t):=by simp [go_sem,hc4,hc3,hc1,z4_0,z4_1,z4_2,z3_0,z3_1,z3_2,z1_0,z1_1,z1_2]
 have f3:w4.cell? ⟨w.heap.size+1,1,none⟩=some (.slice B m d):=by simp [go_sem,hc4,hc3,hc1,z4_0,z4_1,z4_2,z3_0,z3_1,z3_2,z1_0,z1_1,z1_2]
 have f4:w4.cell? ⟨w.heap.size+1+1,0,none⟩=some (.int .i64 0):=by simp [go_sem,hc4,hc3,hc1,z4_0,z4_1,z4_2,z3_0,z3_1,z3_2,z1_0,z1_1,z1_2]
 have f5:w4.cell? ⟨w.heap.size+1+1,1,none⟩=some (.slice none 0 0):=by simp [go_sem,hc4,hc3,hc1,z4_0,z4_1,z4_2,z3_0,z3_1,z3_2,z1_0,z1_1,z1_2]
 have f6:∀o,w4.frozen? ⟨w.heap.size+1+1,o,none⟩=false:=by intro o;simp [go_sem,hf4,hf3,hf1,z4_0,z4_1,z4_2,z3_0,z3_1,z3_2,z1_0,z1_1,z1_2]
 clear hc1 hc3 hc4 hf1 hf3 hf4;go_wp2_with (go_at_call 164;(with_reducible refine (jeW HZ.o (by with_reducible repeat first|assumption|apply rZ|refine rP ?_ rfl (by simp [go_sem,f0,f1,f2,f3])) (by with_reducible repeat first|assumption|apply rZ|refine rP ?_ rfl (by simp [go_sem,f0,f1,f2,f3])) HL1.o HL2.o HP.o).mono ?_);rintro e2 w2 ⟨s2,A2,n2,c2,t2,B2,m2,d2,rfl,hr2,hq2,hb2⟩;obtain ⟨hc2,hf2,z2_0,z2_1,z2_2,_⟩:=bc3 w hb2 (by go_size))
 exact bodyPost_ret (v:= .agg #[.int .i64 (s2), .slice (A2) (n2) (c2)]) (by simp [results,results126,go_sem,hc2,z4_0,z4_1,z4_2,z2_0,z2_1,z2_2,nl z2_0,nl z2_1,nl z2_2,f0,f1,f2,f3,f4,f5,f6]) rfl (jaf rfl ((by with_reducible repeat first|assumption|apply rZ|refine rP ?_ rfl (by simp [go_sem,hc2,z4_0,z4_1,z4_2,z2_0,z2_1,z2_2,nl z2_0,nl z2_1,nl z2_2,f0,f1,f2,f3,f4,f5,f6]))) bi)

theorem jrh (h:Rep w s A n c a) (h':Rep w t B m d b) (hl:Lim a) (hl':Lim b) (hp:b≠0):Calls prog 126 #[iv s A n c,iv t B m d] w (ja7 (a.fdiv b) w):=by
 rcases Int.lt_or_le b 0 with h1|h1
 ·refine jrl h h' hl hl' h1 _ _ _ rfl rfl ?_;rw [←Int.neg_fdiv_neg,Int.fdiv_eq_ediv_of_nonneg _ (by omega)]
 ·rw [Int.fdiv_eq_ediv_of_nonneg _ h1];exact jsX h h' hl hl' (by omega)
end

structure GI (w wr:World) (g x y:Nat) (s:Int) (A:Option Addr) (n c:Nat) (t:Int) (B:Option Addr) (m d:Nat):Prop where
 r1:Rep wr s A n c (x:Nat)
 r2:Rep wr t B m d (y:Nat)
 l1:Lim (x:Nat)
 l2:Lim (y:Nat)
 gcd:Nat.gcd x y=g
 c0:wr.cell? ⟨w.heap.size,0,none⟩=some (.int .i64 s)
 c1:wr.cell? ⟨w.heap.size,1,none⟩=some (.slice A n c)
 c2:wr.cell? ⟨w.heap.size+1,0,none⟩=some (.int .i64 t)
 c3:wr.cell? ⟨w.heap.size+1,1,none⟩=some (.slice B m d)
 c4:wr.cell? ⟨w.heap.size+1+1,0,none⟩=some (.int .i64 0)
 c5:wr.cell? ⟨w.heap.size+1+1,1,none⟩=some (.slice none 0 0)
 f0:∀o,wr.frozen? ⟨w.heap.size,o,none⟩=false
 f1:∀o,wr.frozen? ⟨w.heap.size+1,o,none⟩=false
 f2:∀o,wr.frozen? ⟨w.heap.size+1+1,o,none⟩=false
 bel:Below w.heap.size w wr
 sz:w.heap.size+1+1 < wr.heap.size

theorem jre {y:Nat} (h:0 < y):sgn ((y:Nat):Int)=1:=by unfold sgn;rw [if_neg (by omega),if_pos (by omega)]
theorem jku {s t:Int} {x y r:Nat} {A B:Option Addr} {n c m d:Nat} {w:World} (hr:x % y=r) (h:Rep w s A n c (x:Nat)) (h':Rep w t B m d (y:Nat)) (hl:Lim (x:Nat)) (hl':Lim (y:Nat)) (hp:0 < y):
  Calls prog 164 #[iv s A n c,iv t B m d] w (jcU ((x / y:Nat):Int) (r:Nat) w):=by
 subst hr;rw [Int.natCast_ediv,Int.natCast_emod];exact jdM h h' hl hl' (by omega)


theorem jo4 {x y:Nat} (h:Lim (y:Nat)) (hxy:x≤y):Lim (x:Nat):=⟨by have:=h.lt;simp only [Int.natAbs_natCast] at*;exact Nat.lt_of_le_of_lt hxy this⟩
section
variable {s a t b:Int} {A B:Option Addr} {n c m d:Nat} {w:World}
theorem jrw (h:Rep w s A n c a) (h':Rep w t B m d b) (hl:Lim a) (hl':Lim b):
  Calls prog 123 #[iv s A n c,iv t B m d] w (ja7 ((Nat.gcd a.natAbs b.natAbs:Nat):Int) w):=by
 have HR1:=qh (show ∀W,Below w.heap.size w W→Rep W s A n c a from fun W hb=>h.below hb);have HR2:=qh (show ∀W,Below w.heap.size w W→Rep W t B m d b from fun W hb=>h'.below hb);have HL1:=qh (show Lim ((a.natAbs:Nat):Int) from ⟨hl.lt⟩);have HL2:=qh (show Lim ((b.natAbs:Nat):Int) from ⟨hl'.lt⟩);clear h h' hl hl';have HA1:=qh (show ∀W,Below w.heap.size w W→Calls prog 163 #[iv s A n c] W (ja7 ((a.natAbs:Nat):Int) W) from fun W hb=>jnd (HR1.o W hb));have HA2:=qh (show ∀W,Below w.heap.size w W→Calls prog 163 #[iv t B m d] W (ja7 ((b.natAbs:Nat):Int) W) from fun W hb=>jnd (HR2.o W hb));obtain ⟨x0,hx0⟩:∃x,a.natAbs=x:=⟨_,rfl⟩;obtain ⟨y0,hy0⟩:∃y,b.natAbs=y:=⟨_,rfl⟩;obtain ⟨g,hg⟩:∃g,Nat.gcd x0 y0=g:=⟨_,rfl⟩;rw [hx0,hy0,hg];rw [hx0] at HL1 HA1;rw [hy0] at HL2 HA2;have HG:=qh hg;clear hx0 hy0 hg HR1 HR2;go_enter func123,ntmps123;go_wp2
 have hb0:Below (((w.alloc (.cells #[.int .i64 s, .slice A n c] 68)).alloc (.cells #[.int .i64 t, .slice B m d] 68)).alloc (.cells #[.int .i64 0, .slice none 0 0] 68)).heap.size
  (((w.alloc (.cells #[.int .i64 s, .slice A n c] 68)).alloc (.cells #[.int .i64 t, .slice B m d] 68)).alloc (.cells #[.int .i64 0, .slice none 0 0] 68))
  (((w.alloc (.cells #[.int .i64 s, .slice A n c] 68)).alloc (.cells #[.int .i64 t, .slice B m d] 68)).alloc (.cells #[.int .i64 0, .slice none 0 0] 68)):=Below.refl _ _
 refine ja1 (fun w'=>Below (((w.alloc (.cells #[.int .i64 s, .slice A n c] 68)).alloc (.cells #[.int .i64 t, .slice B m d] 68)).alloc (.cells #[.int .i64 0, .slice none 0 0] 68)).heap.size
  (((w.alloc (.cells #[.int .i64 s, .slice A n c] 68)).alloc (.cells #[.int .i64 t, .slice B m d] 68)).alloc (.cells #[.int .i64 0, .slice none 0 0] 68)) w') [4,5] (by kernel_rfl) ?_
 refine jaw [1] (i:=0) (v:= .agg #[.int .i64 s, .slice A n c]) rfl (by kernel_rfl) (by kernel_rfl) (by kernel_rfl) (by kernel_rfl) (by kernel_rfl) (fun _ _ _ h=>h) (Or.inl ⟨by rfl, ?_⟩) bi ?_
 ·intro w' hS';obtain ⟨hcS,hfS⟩:=jhL hS';go_simp
 simp only [Act.put,List.setIfInBounds_toArray,List.set_cons_zero,List.set_cons_succ];refine jaw [3] (i:=2) (v:= .agg #[.int .i64 t, .slice B m d]) rfl (by kernel_rfl) (by kernel_rfl) (by kernel_rfl) (by kernel_rfl) (by kernel_rfl) (fun _ _ _ h=>h) (Or.inl ⟨by rfl, ?_⟩) bi ?_
 ·intro w' hS';obtain ⟨hcS,hfS⟩:=jhL hS';go_simp
 simp only [Act.put,List.setIfInBounds_toArray,List.set_cons_zero,List.set_cons_succ];refine ja4 (rs:=[1]) (by kernel_rfl) (by simp) (AllT.cons rfl (fun K hK=> ?_) AllT.nil);go_simp;go_wp2_with (go_at_call 163;(with_reducible refine mi3 w (HA1.o _ bi) (by go_size) fun w3 s3 A3 n3 c3 hr3 hb3 hc3 hf3 z3_0 z3_1 z3_2 _=> ?_))
 refine hK.out _ _ (fun _=>bi) ?_;clear hK K;refine ja4 (rs:=[3]) (by kernel_rfl) (by simp) (AllT.cons rfl (fun K hK=> ?_) AllT.nil);go_simp;go_wp2_with (go_at_call 163;(with_reducible refine mi3 w (HA2.o _ bi) (by go_size) fun w4 s4 A4 n4 c4 hr4 hb4 hc4 hf4 z4_0 z4_1 z4_2 _=> ?_))
 refine hK.out _ _ (fun _=>bi) ?_;clear hK K;refine ja4 (rs:=[4]) (by kernel_rfl) (by simp) (AllT.cons rfl (fun K hK=> ?_) AllT.nil);go_simp;refine hK.out _ _ (fun h=>(h (by decide)).elim) ?_;clear hK K;refine ja4 (rs:=[5]) (by kernel_rfl) (by simp) (AllT.cons rfl (fun K hK=> ?_) AllT.nil);go_simp;refine hK.out _ _ (fun h=>(h (by decide)).elim) ?_;clear hK K;refine ja2 (by kernel_rfl) ?_ _;have f0:w4.cell? ⟨w.heap.size,0,none⟩=some (.int .i64 s):=by simp [go_sem,hc4,hc3,z4_0,z4_1,z4_2,z3_0,z3_1,z3_2]
 have f1:w4.cell? ⟨w.heap.size,1,none⟩=some (.slice A n c):=by simp [go_sem,hc4,hc3,z4_0,z4_1,z4_2,z3_0,z3_1,z3_2]
 have f2:w4.cell? ⟨w.heap.size+1,0,none⟩=some (.int .i64 t):=by simp [go_sem,hc4,hc3,z4_0,z4_1,z4_2,z3_0,z3_1,z3_2]
 have f3:w4.cell? ⟨w.heap.size+1,1,none⟩=some (.slice B m d):=by simp [go_sem,hc4,hc3,z4_0,z4_1,z4_2,z3_0,z3_1,z3_2]
 have f4:w4.cell? ⟨w.heap.size+1+1,0,none⟩=some (.int .i64 0):=by simp [go_sem,hc4,hc3,z4_0,z4_1,z4_2,z3_0,z3_1,z3_2]
 have f5:w4.cell? ⟨w.heap.size+1+1,1,none⟩=some (.slice none 0 0):=by simp [go_sem,hc4,hc3,z4_0,z4_1,z4_2,z3_0,z3_1,z3_2]
 have g0:∀o,w4.frozen? ⟨w.heap.size,o,none⟩=false:=by intro o;simp [go_sem,hf4,hf3,z4_0,z4_1,z4_2,z3_0,z3_1,z3_2]
 have g1:∀o,w4.frozen? ⟨w.heap.size+1,o,none⟩=false:=by intro o;simp [go_sem,hf4,hf3,z4_0,z4_1,z4_2,z3_0,z3_1,z3_2]
 have g2:∀o,w4.frozen? ⟨w.heap.size+1+1,o,none⟩=false:=by intro o;simp [go_sem,hf4,hf3,z4_0,z4_1,z4_2,z3_0,z3_1,z3_2]
 clear hc3 hc4 hf3 hf4;go_wp2
 go_loopg [5] y0 (fun k p wr=>∃x s A n c t B m d,GI w wr g x k s A n c t B m d)
 case atStart=>
  refine ⟨x0,s3,A3,n3,c3,s4,A4,n4,c4, ?_⟩;exact { r1:=(by with_reducible repeat first|assumption|apply rZ|refine rP ?_ rfl (by simp [go_sem,f0,f1,f2,f3])),r2:=(by with_reducible repeat first|assumption|apply rZ|refine rP ?_ rfl (by simp [go_sem,f0,f1,f2,f3])),l1:=HL1.o,l2:=HL2.o,gcd:=HG.o,c0:=by simp [go_sem,f0,f1,f2,f3,f4,f5],c1:=by simp [go_sem,f0,f1,f2,f3,f4,f5],c2:=by simp [go_sem,f0,f1,f2,f3,f4,f5],c3:=by simp [go_sem,f0,f1,f2,f3,f4,f5],c4:=by simp [go_sem,f0,f1,f2,f3,f4,f5],c5:=by simp [go_sem,f0,f1,f2,f3,f4,f5],f0:=by intro o;simp [go_sem,g0,g1,g2],f1:=by intro o;simp [go_sem,g0,g1,g2],f2:=by intro o;simp [go_sem,g0,g1,g2],bel:=bi,sz:=by simpa using z4_2 }
 case round=>
  clear f0 f1 f2 f3 f4 f5 g0 g1 g2 z3_0 z3_1 z3_2 z4_0 z4_1 z4_2 hb3 hb4 hr3 hr4 HG HL1 HL2;obtain ⟨x,s1,A1,n1,c1,s2,A2,n2,c2,hI⟩:=hrel;have f0:=hI.c0;have f1:=hI.c1;have f2:=hI.c2;have f3:=hI.c3;have f4:=hI.c4;have f5:=hI.c5;have g0:=hI.f0;have g1:=hI.f1;have g2:=hI.f2;have hbr:=hI.bel;have hzr:=hI.sz;have hzr0:w.heap.size < wr.heap.size:=by omega
  have hzr1:w.heap.size+1 < wr.heap.size:=by omega
  have HI:=qh hI;clear hI;by_cases hk:gk=0
  ·have HS:=qh (show sgn ((gk:Nat):Int)=0 by rw [hk];rfl);have HK:=qh hk;clear hk;go_wp2_with (go_at_call 119;(with_reducible refine mo3 w (jaR HS.o HI.o.r2) (by go_size) fun w5 hb5 hc5 hf5 z5_0 z5_1 z5_2 _=> ?_))
   have e1:Rep wr s1 A1 n1 c1 (g:Nat):=HI.o.r1.to (by have h1:=HI.o.gcd;rw [HK.o,Nat.gcd_zero_right] at h1;rw [h1]);exact bodyPost_ret (v:= .agg #[.int .i64 (s1), .slice (A1) (n1) (c1)]) (by simp [results,results123,go_sem,hc5,hzr,hzr0,hzr1,f0,f1,f2,f3,f4,f5,g0,g1,g2]) rfl (jaf rfl ((by with_reducible repeat first|assumption|apply rZ|refine rP ?_ rfl (by simp [go_sem,hc5,hzr,hzr0,hzr1,f0,f1,f2,f3,f4,f5,g0,g1,g2]))) (bq (by with_reducible repeat' first|assumption|constructor|go_size)))
  ·have HS:=qh (show sgn ((gk:Nat):Int)=1 from jre (by omega));have HK:=qh (show 0 < gk by omega);clear hk;obtain ⟨r,hr⟩:∃r,x % gk=r:=⟨_,rfl⟩;have HRR:=qh hr;clear hr
   go_wp2_with (first
    | (go_at_call 119;(with_reducible refine mo3 w (jaR HS.o HI.o.r2) (by go_size) fun w5 hb5 hc5 hf5 z5_0 z5_1 z5_2 _=> ?_))
    | (go_at_call 164;(with_reducible refine (jku HRR.o (HI.o.r1.below bi) (HI.o.r2.below bi) HI.o.l1 HI.o.l2 HK.o).mono ?_);rintro e6 w6 ⟨s6,A6,n6,c6,t6,B6,m6,d6,rfl,hr6,hq6,hb6⟩;obtain ⟨hc6,hf6,z6_0,z6_1,z6_2,_⟩:=bc3 w hb6 (by go_size)))
   have k0:w6.cell? ⟨w.heap.size,0,none⟩=some (.int .i64 s1):=by simp [go_sem,hc6,hc5,z5_0,z5_1,z5_2,hzr,hzr0,hzr1,f0,f1,f2,f3,f4,f5]
   have k1:w6.cell? ⟨w.heap.size,1,none⟩=some (.slice A1 n1 c1):=by simp [go_sem,hc6,hc5,z5_0,z5_1,z5_2,hzr,hzr0,hzr1,f0,f1,f2,f3,f4,f5]
   have k2:w6.cell? ⟨w.heap.size+1,0,none⟩=some (.int .i64 s2):=by simp [go_sem,hc6,hc5,z5_0,z5_1,z5_2,hzr,hzr0,hzr1,f0,f1,f2,f3,f4,f5]
   have k3:w6.cell? ⟨w.heap.size+1,1,none⟩=some (.slice A2 n2 c2):=by simp [go_sem,hc6,hc5,z5_0,z5_1,z5_2,hzr,hzr0,hzr1,f0,f1,f2,f3,f4,f5]
   have k4:w6.cell? ⟨w.heap.size+1+1,0,none⟩=some (.int .i64 0):=by simp [go_sem,hc6,hc5,z5_0,z5_1,z5_2,hzr,hzr0,hzr1,f0,f1,f2,f3,f4,f5]
   have k5:w6.cell? ⟨w.heap.size+1+1,1,none⟩=some (.slice none 0 0):=by simp [go_sem,hc6,hc5,z5_0,z5_1,z5_2,hzr,hzr0,hzr1,f0,f1,f2,f3,f4,f5]
   have p0:∀o,w6.frozen? ⟨w.heap.size,o,none⟩=false:=by intro o;simp [go_sem,hf6,hf5,z5_0,z5_1,z5_2,hzr,hzr0,hzr1,g0,g1,g2]
   have p1:∀o,w6.frozen? ⟨w.heap.size+1,o,none⟩=false:=by intro o;simp [go_sem,hf6,hf5,z5_0,z5_1,z5_2,hzr,hzr0,hzr1,g0,g1,g2]
   have p2:∀o,w6.frozen? ⟨w.heap.size+1+1,o,none⟩=false:=by intro o;simp [go_sem,hf6,hf5,z5_0,z5_1,z5_2,hzr,hzr0,hzr1,g0,g1,g2]
   have hn0:w.heap.size≠w6.heap.size:=nl z6_0;have hn1:w.heap.size+1≠w6.heap.size:=nl z6_1;have hn2:w.heap.size+1+1≠w6.heap.size:=nl z6_2;clear hc5 hc6 hf5 hf6 f0 f1 f2 f3 f4 f5 g0 g1 g2
   go_region
   go_wp2
   go_roundg r
   case measure=>have:=HRR.o;have:=HK.o;rw [←HRR.o];exact Nat.mod_lt _ this
   case rel=>
    have e1:Rep wr s2 A2 n2 c2 (gk:Nat):=HI.o.r2;have e2:Rep w6 t6 B6 m6 d6 (r:Nat):=hq6;refine ⟨gk,s2,A2,n2,c2,t6,B6,m6,d6, ?_⟩;exact { r1:=(by with_reducible repeat first|assumption|apply rZ|refine rP ?_ rfl (by simp [go_sem,k0,k1,k2,k3,k4,k5,p0,p1,p2,hn0,hn1,hn2,z6_0,z6_1,z6_2])),r2:=(by with_reducible repeat first|assumption|apply rZ|refine rP ?_ rfl (by simp [go_sem,k0,k1,k2,k3,k4,k5,p0,p1,p2,hn0,hn1,hn2,z6_0,z6_1,z6_2])),l1:=HI.o.l2,l2:=jo4 HI.o.l2 (by rw [←HRR.o];exact Nat.le_of_lt (Nat.mod_lt _ HK.o)),gcd:=by rw [←HRR.o,←HI.o.gcd,Nat.gcd_comm x,Nat.gcd_rec gk x,Nat.gcd_comm (x % gk)],c0:=by simp [go_sem,k0,k1,k2,k3,k4,k5,p0,p1,p2,hn0,hn1,hn2,z6_0,z6_1,z6_2],c1:=by simp [go_sem,k0,k1,k2,k3,k4,k5,p0,p1,p2,hn0,hn1,hn2,z6_0,z6_1,z6_2],c2:=by simp [go_sem,k0,k1,k2,k3,k4,k5,p0,p1,p2,hn0,hn1,hn2,z6_0,z6_1,z6_2],c3:=by simp [go_sem,k0,k1,k2,k3,k4,k5,p0,p1,p2,hn0,hn1,hn2,z6_0,z6_1,z6_2],c4:=by simp [go_sem,k0,k1,k2,k3,k4,k5,p0,p1,p2,hn0,hn1,hn2,z6_0,z6_1,z6_2],c5:=by simp [go_sem,k0,k1,k2,k3,k4,k5,p0,p1,p2,hn0,hn1,hn2,z6_0,z6_1,z6_2],f0:=by intro o;simp [go_sem,k0,k1,k2,k3,k4,k5,p0,p1,p2,hn0,hn1,hn2,z6_0,z6_1,z6_2],f1:=by intro o;simp [go_sem,k0,k1,k2,k3,k4,k5,p0,p1,p2,hn0,hn1,hn2,z6_0,z6_1,z6_2],f2:=by intro o;simp [go_sem,k0,k1,k2,k3,k4,k5,p0,p1,p2,hn0,hn1,hn2,z6_0,z6_1,z6_2],bel:=(bq (by with_reducible repeat' first|assumption|constructor|go_size)),sz:=by simp;omega }
end

structure PI (w wr:World) (b5:Nat) (N k p o:Nat) (s:Int) (A:Option Addr) (n c:Nat) (t:Int) (B:Option Addr) (m d:Nat):Prop where
 r1:Rep wr s A n c (p:Nat)
 r2:Rep wr t B m d (o:Nat)
 p1:1≤p
 o1:1≤o
 val:o*p^k=N
 c0:wr.cell? ⟨w.heap.size,0,none⟩=some (.int .i64 s)
 c1:wr.cell? ⟨w.heap.size,1,none⟩=some (.slice A n c)
 c2:wr.cell? ⟨b5,0,none⟩=some (.int .i64 t)
 c3:wr.cell? ⟨b5,1,none⟩=some (.slice B m d)
 c4:wr.cell? ⟨w.heap.size+1,0,none⟩=some (.int .i64 0)
 c5:wr.cell? ⟨w.heap.size+1,1,none⟩=some (.slice none 0 0)
 f0:∀o,wr.frozen? ⟨w.heap.size,o,none⟩=false
 f1:∀o,wr.frozen? ⟨b5,o,none⟩=false
 f2:∀o,wr.frozen? ⟨w.heap.size+1,o,none⟩=false
 bel:Below w.heap.size w wr
 sz:w.heap.size+1 < b5∧b5 < wr.heap.size

theorem jus (x r:Nat) (hx:x < 9223372036854775808) (h:r=x % 2):bits .and .i64 (x:Int) 1=(r:Int):=by
 have e:∀a:Nat,a < 18446744073709551616→(BitVec.ofInt 64 (a:Int)).toNat=a:=fun a ha=>by
  rw [BitVec.ofInt_natCast,BitVec.toNat_ofNat];exact Nat.mod_eq_of_lt (by omega)
 show IntKind.i64.wrap ((BitVec.ofInt 64 (x:Int) &&& BitVec.ofInt 64 ((1:Nat):Int)).toNat:Int)=_
 rw [BitVec.toNat_and,e x (by omega),e 1 (by omega),h];have e2:x &&& 1=x % 2:=Nat.and_two_pow_sub_one_eq_mod x 1;rw [e2];simp [IntKind.wrap,IntKind.bits,IntKind.signed];omega
theorem jeY {s t:Int} {x y z:Nat} {A B:Option Addr} {n c m d:Nat} {w:World} (hz:x*y=z) (h:Rep w s A n c (x:Nat)) (h':Rep w t B m d (y:Nat)) (hl:Lim (x:Nat)) (hl':Lim (y:Nat)):
  Calls prog 78 #[iv s A n c,iv t B m d] w (ja7 (z:Nat) w):=by
 subst hz;rw [Int.natCast_mul];exact jbo h h' hl hl'
theorem jq5 {k:Nat} (o p:Nat) (h:k % 2=0):o*(p*p)^(k / 2)=o*p^k:=by
 have e:k=2*(k / 2):=by omega
 rw [show p*p=p^2 by rw [Nat.pow_two],←Nat.pow_mul,←e]
theorem jrS {k:Nat} (o p:Nat) (h:k % 2=1):o*p*(p*p)^(k / 2)=o*p^k:=by
 have e:k=2*(k / 2)+1:=by omega
 have e2:(p*p)^(k / 2)=p^(2*(k / 2)):=by rw [show p*p=p^2 by rw [Nat.pow_two],←Nat.pow_mul]
 rw [e2,Nat.mul_assoc];have e3:p*p^(2*(k / 2))=p^k:=by rw [Nat.mul_comm,←Nat.pow_succ];exact congrArg (p^ ·) e.symm
 rw [e3]
section
variable {s a t b:Int} {A B:Option Addr} {n c m d:Nat} {w:World}
theorem jrd (a k:Nat) (h:Rep w s A n c (a:Nat)) (ha:1≤a) (hk:k < 9223372036854775808) (hl:Lim ((a^k:Nat):Int)):
  Calls prog 142 #[iv s A n c, .int .i64 (k:Int)] w (ja7 ((a^k:Nat):Int) w):=by
 have HR1:=qh (show ∀W,Below w.heap.size w W→Rep W s A n c (a:Nat) from fun W hb=>h.below hb);have HA:=qh ha;have HK:=qh hk;obtain ⟨N,hN⟩:∃N,a^k=N:=⟨_,rfl⟩;rw [hN] at hl ⊢;have HN:=qh hN;have HL:=qh hl;clear h ha hl hN hk;go_enter func142,ntmps142;go_wp2_with (go_at_call 118;(with_reducible refine mi2 w (jg7 1 _ (by constructor <;> decide)) (by go_size) fun w1 s1 A1 n1 c1 hr1 hb1 hc1 hf1 z1_0 z1_1 _=> ?_))
 go_loopw [1] (fun i wr=>∃(k p o:Nat) (s:Int) (A:Option Addr) (n c:Nat) (t:Int) (B:Option Addr) (m d:Nat),k < 9223372036854775808∧i= .int .i64 (k:Int)∧PI w wr w1.heap.size N k p o s A n c t B m d) (fun i _=>(intOf i).toNat)
 case atStart=>
  refine ⟨k,a,1,s,A,n,c,s1,A1,n1,c1,HK.o,rfl, ?_⟩;have e1:Rep w1 s1 A1 n1 c1 ((1:Nat):Int):=hr1;exact { r1:=HR1.o _ bi,r2:=(by with_reducible repeat first|assumption|apply rZ|refine rP ?_ rfl (by simp [go_sem,hc1])),p1:=HA.o,o1:=Nat.le_refl _,val:=by rw [Nat.one_mul];exact HN.o,c0:=by simp [go_sem,hc1,z1_0,z1_1,nl z1_0],c1:=by simp [go_sem,hc1,z1_0,z1_1],c2:=by simp [go_sem],c3:=by simp [go_sem],c4:=by simp [go_sem,hc1,z1_0,z1_1],c5:=by simp [go_sem,hc1,z1_0,z1_1],f0:=by intro o;simp [go_sem,hf1,z1_0,z1_1,nl z1_0],f1:=by intro o;simp [go_sem],f2:=by intro o;simp [go_sem,hf1,z1_0,z1_1,nl z1_1],bel:=bi,sz:=⟨z1_1,by simp⟩ }
 case round=>
  obtain ⟨b5,hb5⟩:∃b,w1.heap.size=b:=⟨_,rfl⟩;rw [hb5] at hrel ⊢;clear hb1 hc1 hf1 hr1;rw [hb5] at z1_0 z1_1;clear hb5;obtain ⟨k,p,o,sp,Ap,np,cp,so,Ao,no,co,hk,rfl,hI⟩:=hrel;have f0:=hI.c0;have f1:=hI.c1;have f2:=hI.c2;have f3:=hI.c3;have f4:=hI.c4;have f5:=hI.c5;have g0:=hI.f0;have g1:=hI.f1;have g2:=hI.f2;have hbr:=hI.bel;have hzr:=hI.sz.2;have hzr0:w.heap.size < wr.heap.size:=by omega
  have hzr1:w.heap.size+1 < wr.heap.size:=by omega
  have hn0:w.heap.size≠b5:=by omega
  have hn1:w.heap.size+1≠b5:=by omega
  have e1:=hI.r1;have e2:=hI.r2;have HI:=qh hI;clear hI;by_cases hk0:k=0
  ·have q0:decide (0 < k)=false:=by simp;omega
   have e3:Rep wr so Ao no co (N:Nat):=HI.o.r2.to (by have h1:=HI.o.val;rw [hk0,Nat.pow_zero,Nat.mul_one] at h1;rw [h1]);clear hk0 hk;go_wp2;exact bodyPost_ret (v:= .agg #[.int .i64 (so), .slice (Ao) (no) (co)]) (by simp [results,results142,go_sem,f4,f5,g2]) rfl (jaf rfl ((by with_reducible repeat first|assumption|apply rZ|refine rP ?_ rfl (by simp [go_sem,f4,f5]))) (bq (by with_reducible repeat' first|assumption|constructor|go_size)))
  ·have HKK:=qh hk;have hk1:0 < k:=by omega
   have q0:decide (0 < k)=true:=by simp;omega
   have hq:IntKind.i64.wrap ((k:Int) / 2)=((k / 2:Nat):Int):=by simp [IntKind.wrap,IntKind.bits,IntKind.signed];omega
   have HQ:=qh hq;have hb:=jus k _ hk rfl;have HLO:Hd (Lim ((o:Nat):Int)):=qh (jo4 HL.o (by rw [←HI.o.val];exact Nat.le_mul_of_pos_right _ (Nat.pow_pos HI.o.p1)));have HLP:Hd (Lim ((p:Nat):Int)):=qh (jo4 HL.o (by rw [←HI.o.val];exact Nat.le_trans (Nat.le_trans (by rw [Nat.pow_one];exact Nat.le_refl _) (Nat.pow_le_pow_right HI.o.p1 (show 1≤k from hk1))) (Nat.le_mul_of_pos_left _ HI.o.o1)));obtain ⟨op,hop⟩:∃x,o*p=x:=⟨_,rfl⟩;obtain ⟨pp,hpp⟩:∃x,p*p=x:=⟨_,rfl⟩;have HOP:=qh hop;have HPP:=qh hpp;have HK1:=qh hk1;clear hk hk0 hop hpp hq hk1;by_cases hd:k % 2=1
   ·have qb:(bits .and .i64 (k:Int) 1==1)=true:=by rw [hb,hd];rfl
    have HD:=qh hd;clear hb hd;by_cases hg:1 < k
    ·have q1:decide ((1:Int) < (k:Int))=true:=by simp;omega
     clear hg
     go_wp2_with (first
      | ((go_at_call 78;(with_reducible refine mi2 w (jeY (s:=so) (t:=sp) HOP.o (by with_reducible repeat first|assumption|apply rZ|refine rP ?_ rfl (by simp [go_sem,f0,f1])) (by with_reducible repeat first|assumption|apply rZ|refine rP ?_ rfl (by simp [go_sem,f0,f1])) HLO.o HLP.o) (by go_size) fun w2 s2 A2 n2 c2 hr2 hb2 hc2 hf2 z2_0 z2_1 _=> ?_));have hx2:b5 < w2.heap.size:=(by have:=hb2.size;(try simp at this);omega))
      | ((go_at_call 78;(with_reducible refine mi2 w (jeY (s:=sp) (t:=sp) HPP.o (by with_reducible repeat first|assumption|apply rZ|refine rP ?_ rfl (by simp [go_sem,hc2,hzr,hzr0,hzr1,hn0,hn1,f0,f1,f2,f3,f4,f5])) (by with_reducible repeat first|assumption|apply rZ|refine rP ?_ rfl (by simp [go_sem,hc2,hzr,hzr0,hzr1,hn0,hn1,f0,f1,f2,f3,f4,f5])) HLP.o HLP.o) (by go_size) fun w3 s3 A3 n3 c3 hr3 hb3 hc3 hf3 z3_0 z3_1 _=> ?_));have hx3:b5 < w3.heap.size:=(by have:=hb3.size;(try simp at this);omega)))
     exact ⟨⟨k / 2,pp,op,s3,A3,n3,c3,s2,A2,n2,c2,by have:=HKK.o;omega,by simp,{ r1:=(by with_reducible repeat first|assumption|apply rZ|refine rP ?_ rfl (by simp [go_sem,hc3,hc2,hx2,z2_0,z2_1,hx3,z3_0,z3_1,hzr,hzr0,hzr1,hn0,hn1,f0,f1,f2,f3,f4,f5])),r2:=(by with_reducible repeat first|assumption|apply rZ|refine rP ?_ rfl (by simp [go_sem,hc3,hc2,hx2,z2_0,z2_1,hx3,z3_0,z3_1,hzr,hzr0,hzr1,hn0,hn1,f0,f1,f2,f3,f4,f5])),p1:=by rw [←HPP.o];exact Nat.le_trans (by omega) (Nat.mul_le_mul HI.o.p1 HI.o.p1),o1:=by rw [←HOP.o];exact Nat.le_trans (by omega) (Nat.mul_le_mul HI.o.o1 HI.o.p1),val:=by rw [←HPP.o,←HOP.o,←HI.o.val];exact jrS _ _ HD.o,c0:=by simp [go_sem,hc3,hc2,hx2,z2_0,z2_1,hx3,z3_0,z3_1,hzr,hzr0,hzr1,hn0,hn1,f0,f1,f2,f3,f4,f5],c1:=by simp [go_sem,hc3,hc2,hx2,z2_0,z2_1,hx3,z3_0,z3_1,hzr,hzr0,hzr1,hn0,hn1,f0,f1,f2,f3,f4,f5],c2:=by simp [go_sem,hc3,hc2,hx2,z2_0,z2_1,hx3,z3_0,z3_1,hzr,hzr0,hzr1,hn0,hn1,f0,f1,f2,f3,f4,f5],c3:=by simp [go_sem,hc3,hc2,hx2,z2_0,z2_1,hx3,z3_0,z3_1,hzr,hzr0,hzr1,hn0,hn1,f0,f1,f2,f3,f4,f5],c4:=by simp [go_sem,hc3,hc2,hx2,z2_0,z2_1,hx3,z3_0,z3_1,hzr,hzr0,hzr1,hn0,hn1,f0,f1,f2,f3,f4,f5],c5:=by simp [go_sem,hc3,hc2,hx2,z2_0,z2_1,hx3,z3_0,z3_1,hzr,hzr0,hzr1,hn0,hn1,f0,f1,f2,f3,f4,f5],f0:=by intro o;simp [go_sem,hf3,hf2,hx2,z2_0,z2_1,hx3,z3_0,z3_1,hzr,hzr0,hzr1,hn0,hn1,g0,g1,g2],f1:=by intro o;simp [go_sem,hf3,hf2,hx2,z2_0,z2_1,hx3,z3_0,z3_1,hzr,hzr0,hzr1,hn0,hn1,g0,g1,g2],f2:=by intro o;simp [go_sem,hf3,hf2,hx2,z2_0,z2_1,hx3,z3_0,z3_1,hzr,hzr0,hzr1,hn0,hn1,g0,g1,g2],bel:=(bq (by with_reducible repeat' first|assumption|constructor|go_size)),sz:=⟨HI.o.sz.1,by simp;omega⟩ }⟩,by have:=HK1.o;simp [intOf];omega⟩
    ·have q1:decide ((1:Int) < (k:Int))=false:=by simp;omega
     have HG:=qh (show k=1 by have:=HK1.o;omega);clear hg;go_wp2_with ((go_at_call 78;(with_reducible refine mi2 w (jeY (s:=so) (t:=sp) HOP.o (by with_reducible repeat first|assumption|apply rZ|refine rP ?_ rfl (by simp [go_sem,f0,f1])) (by with_reducible repeat first|assumption|apply rZ|refine rP ?_ rfl (by simp [go_sem,f0,f1])) HLO.o HLP.o) (by go_size) fun w2 s2 A2 n2 c2 hr2 hb2 hc2 hf2 z2_0 z2_1 _=> ?_));have hx2:b5 < w2.heap.size:=(by have:=hb2.size;(try simp at this);omega))
     exact ⟨⟨k / 2,p,op,sp,Ap,np,cp,s2,A2,n2,c2,by have:=HKK.o;omega,by simp,{ r1:=(by with_reducible repeat first|assumption|apply rZ|refine rP ?_ rfl (by simp [go_sem,hc2,hx2,z2_0,z2_1,hzr,hzr0,hzr1,hn0,hn1,f0,f1,f2,f3,f4,f5])),r2:=(by with_reducible repeat first|assumption|apply rZ|refine rP ?_ rfl (by simp [go_sem,hc2,hx2,z2_0,z2_1,hzr,hzr0,hzr1,hn0,hn1,f0,f1,f2,f3,f4,f5])),p1:=HI.o.p1,o1:=by rw [←HOP.o];exact Nat.le_trans (by omega) (Nat.mul_le_mul HI.o.o1 HI.o.p1),val:=by rw [←HOP.o,←HI.o.val,HG.o];simp,c0:=by simp [go_sem,hc2,hx2,z2_0,z2_1,hzr,hzr0,hzr1,hn0,hn1,f0,f1,f2,f3,f4,f5],c1:=by simp [go_sem,hc2,hx2,z2_0,z2_1,hzr,hzr0,hzr1,hn0,hn1,f0,f1,f2,f3,f4,f5],c2:=by simp [go_sem,hc2,hx2,z2_0,z2_1,hzr,hzr0,hzr1,hn0,hn1,f0,f1,f2,f3,f4,f5],c3:=by simp [go_sem,hc2,hx2,z2_0,z2_1,hzr,hzr0,hzr1,hn0,hn1,f0,f1,f2,f3,f4,f5],c4:=by simp [go_sem,hc2,hx2,z2_0,z2_1,hzr,hzr0,hzr1,hn0,hn1,f0,f1,f2,f3,f4,f5],c5:=by simp [go_sem,hc2,hx2,z2_0,z2_1,hzr,hzr0,hzr1,hn0,hn1,f0,f1,f2,f3,f4,f5],f0:=by intro o;simp [go_sem,hf2,hx2,z2_0,z2_1,hzr,hzr0,hzr1,hn0,hn1,g0,g1,g2],f1:=by intro o;simp [go_sem,hf2,hx2,z2_0,z2_1,hzr,hzr0,hzr1,hn0,hn1,g0,g1,g2],f2:=by intro o;simp [go_sem,hf2,hx2,z2_0,z2_1,hzr,hzr0,hzr1,hn0,hn1,g0,g1,g2],bel:=(bq (by with_reducible repeat' first|assumption|constructor|go_size)),sz:=⟨HI.o.sz.1,by simp;omega⟩ }⟩,by have:=HK1.o;simp [intOf];omega⟩
   ·have qb:(bits .and .i64 (k:Int) 1==1)=false:=by rw [hb,show k % 2=0 by omega];rfl
    have q1:decide ((1:Int) < (k:Int))=true:=by have:=HK1.o;simp;omega
    have HD:=qh (show k % 2=0 by omega);clear hb hd;go_wp2_with ((go_at_call 78;(with_reducible refine mi2 w (jeY (s:=sp) (t:=sp) HPP.o (by with_reducible repeat first|assumption|apply rZ|refine rP ?_ rfl (by simp [go_sem,hzr,hzr0,hzr1,hn0,hn1,f0,f1,f2,f3,f4,f5])) (by with_reducible repeat first|assumption|apply rZ|refine rP ?_ rfl (by simp [go_sem,hzr,hzr0,hzr1,hn0,hn1,f0,f1,f2,f3,f4,f5])) HLP.o HLP.o) (by go_size) fun w3 s3 A3 n3 c3 hr3 hb3 hc3 hf3 z3_0 z3_1 _=> ?_));have hx3:b5 < w3.heap.size:=(by have:=hb3.size;(try simp at this);omega))
    exact ⟨⟨k / 2,pp,o,s3,A3,n3,c3,so,Ao,no,co,by have:=HKK.o;omega,by simp,{ r1:=(by with_reducible repeat first|assumption|apply rZ|refine rP ?_ rfl (by simp [go_sem,hc3,hx3,z3_0,z3_1,hzr,hzr0,hzr1,hn0,hn1,f0,f1,f2,f3,f4,f5])),r2:=(by with_reducible repeat first|assumption|apply rZ|refine rP ?_ rfl (by simp [go_sem,hc3,hx3,z3_0,z3_1,hzr,hzr0,hzr1,hn0,hn1,f0,f1,f2,f3,f4,f5])),p1:=by rw [←HPP.o];exact Nat.le_trans (by omega) (Nat.mul_le_mul HI.o.p1 HI.o.p1),o1:=HI.o.o1,val:=by rw [←HPP.o,←HI.o.val];exact jq5 _ _ HD.o,c0:=by simp [go_sem,hc3,hx3,z3_0,z3_1,hzr,hzr0,hzr1,hn0,hn1,f0,f1,f2,f3,f4,f5],c1:=by simp [go_sem,hc3,hx3,z3_0,z3_1,hzr,hzr0,hzr1,hn0,hn1,f0,f1,f2,f3,f4,f5],c2:=by simp [go_sem,hc3,hx3,z3_0,z3_1,hzr,hzr0,hzr1,hn0,hn1,f0,f1,f2,f3,f4,f5],c3:=by simp [go_sem,hc3,hx3,z3_0,z3_1,hzr,hzr0,hzr1,hn0,hn1,f0,f1,f2,f3,f4,f5],c4:=by simp [go_sem,hc3,hx3,z3_0,z3_1,hzr,hzr0,hzr1,hn0,hn1,f0,f1,f2,f3,f4,f5],c5:=by simp [go_sem,hc3,hx3,z3_0,z3_1,hzr,hzr0,hzr1,hn0,hn1,f0,f1,f2,f3,f4,f5],f0:=by intro o;simp [go_sem,hf3,hx3,z3_0,z3_1,hzr,hzr0,hzr1,hn0,hn1,g0,g1,g2],f1:=by intro o;simp [go_sem,hf3,hx3,z3_0,z3_1,hzr,hzr0,hzr1,hn0,hn1,g0,g1,g2],f2:=by intro o;simp [go_sem,hf3,hx3,z3_0,z3_1,hzr,hzr0,hzr1,hn0,hn1,g0,g1,g2],bel:=(bq (by with_reducible repeat' first|assumption|constructor|go_size)),sz:=⟨HI.o.sz.1,by simp;omega⟩ }⟩,by have:=HK1.o;simp [intOf];omega⟩
end

abbrev fv (s:Int) (A:Option Addr) (n c:Nat) (t:Int) (B:Option Addr) (m d:Nat):Value:= .agg #[.int .i64 s, .slice A n c, .int .i64 t, .slice B m d]
structure RepF (w:World) (s:Int) (A:Option Addr) (n c:Nat) (t:Int) (B:Option Addr) (m d:Nat) (x:Rat):Prop where
 num:Rep w s A n c x.num
 den:Rep w t B m d ((x.den:Nat):Int)
theorem RepF.below {w w':World} {s t:Int} {A B:Option Addr} {n c m d:Nat} {x:Rat} (h:RepF w s A n c t B m d x) (hb:Below w.heap.size w w'):RepF w' s A n c t B m d x:=⟨h.num.below hb,h.den.below hb⟩
def jaa (x:Rat) (w:World) (e:Ending) (w':World):Prop:=
 ∃s A n c t B m d,e= .returned (fv s A n c t B m d)∧RepF w' s A n c t B m d x∧Below w.heap.size w w'
theorem jan {x:Rat} {s t:Int} {A B:Option Addr} {n c m d:Nat} {w w':World} {v:Value} (hv:v=fv s A n c t B m d) (h:RepF w' s A n c t B m d x) (hb:Below w.heap.size w w'):jaa x w (.returned v) w':=
 ⟨s,A,n,c,t,B,m,d,by rw [hv],h,hb⟩
section
variable {P:Program} {f:FuncId} {args:Array Value} {W V:World} {R:Ending→World→Prop}
theorem mf0 [Ux W V] {x:Rat} (C:Calls P f args W (jaa x W)) (k:∀w1 s A n c t B m d,Rep w1 s A n c x.num→Rep w1 t B m d ((x.den:Nat):Int)→Below W.heap.size W w1→(∀b o,b < V.heap.size→w1.cell? ⟨b,o,none⟩=V.cell? ⟨b,o,none⟩)→(∀b o,b < V.heap.size→w1.frozen? ⟨b,o,none⟩=V.frozen? ⟨b,o,none⟩)→Bx W w1→R (.returned (fv s A n c t B m d)) w1):Calls P f args W R:=
 C.mono fun e w1 ⟨s,A,n,c,t,B,m,d,he,⟨hr,hq⟩,hb⟩=>by
  subst he;exact k w1 s A n c t B m d hr hq hb (bcu hb).1 (bcu hb).2 ⟨hb⟩
theorem mf1 (w:World) [Ux W V] {x:Rat} (C:Calls P f args W (jaa x W)) (h:w.heap.size < W.heap.size) (k:∀w1 s A n c t B m d,Rep w1 s A n c x.num→Rep w1 t B m d ((x.den:Nat):Int)→Below W.heap.size W w1→(∀b o,b < V.heap.size→w1.cell? ⟨b,o,none⟩=V.cell? ⟨b,o,none⟩)→(∀b o,b < V.heap.size→w1.frozen? ⟨b,o,none⟩=V.frozen? ⟨b,o,none⟩)→w.heap.size < w1.heap.size→Bx W w1→R (.returned (fv s A n c t B m d)) w1):Calls P f args W R:=
 C.mono fun e w1 ⟨s,A,n,c,t,B,m,d,he,⟨hr,hq⟩,hb⟩=>by
  subst he;exact k w1 s A n c t B m d hr hq hb (bcu hb).1 (bcu hb).2 (by have e:=hb.size;omega) ⟨hb⟩
theorem mf2 (w:World) [Ux W V] {x:Rat} (C:Calls P f args W (jaa x W)) (h:w.heap.size+1 < W.heap.size) (k:∀w1 s A n c t B m d,Rep w1 s A n c x.num→Rep w1 t B m d ((x.den:Nat):Int)→Below W.heap.size W w1→(∀b o,b < V.heap.size→w1.cell? ⟨b,o,none⟩=V.cell? ⟨b,o,none⟩)→(∀b o,b < V.heap.size→w1.frozen? ⟨b,o,none⟩=V.frozen? ⟨b,o,none⟩)→w.heap.size < w1.heap.size→w.heap.size+1 < w1.heap.size→Bx W w1→R (.returned (fv s A n c t B m d)) w1):Calls P f args W R:=
 C.mono fun e w1 ⟨s,A,n,c,t,B,m,d,he,⟨hr,hq⟩,hb⟩=>by
  subst he;exact k w1 s A n c t B m d hr hq hb (bcu hb).1 (bcu hb).2 (by have e:=hb.size;omega) (by have e:=hb.size;omega) ⟨hb⟩
theorem mf3 (w:World) [Ux W V] {x:Rat} (C:Calls P f args W (jaa x W)) (h:w.heap.size+1+1 < W.heap.size) (k:∀w1 s A n c t B m d,Rep w1 s A n c x.num→Rep w1 t B m d ((x.den:Nat):Int)→Below W.heap.size W w1→(∀b o,b < V.heap.size→w1.cell? ⟨b,o,none⟩=V.cell? ⟨b,o,none⟩)→(∀b o,b < V.heap.size→w1.frozen? ⟨b,o,none⟩=V.frozen? ⟨b,o,none⟩)→w.heap.size < w1.heap.size→w.heap.size+1 < w1.heap.size→w.heap.size+1+1 < w1.heap.size→Bx W w1→R (.returned (fv s A n c t B m d)) w1):Calls P f args W R:=
 C.mono fun e w1 ⟨s,A,n,c,t,B,m,d,he,⟨hr,hq⟩,hb⟩=>by
  subst he;exact k w1 s A n c t B m d hr hq hb (bcu hb).1 (bcu hb).2 (by have e:=hb.size;omega) (by have e:=hb.size;omega) (by have e:=hb.size;omega) ⟨hb⟩
end
structure Sz (m:Nat) (x:Rat):Prop where
 num:x.num.natAbs≤B64^m
 den:x.den≤B64^m
theorem Sz.mono {m m':Nat} {x:Rat} (h:Sz m x) (hm:m≤m'):Sz m' x:=
 ⟨Nat.le_trans h.num (Nat.pow_le_pow_right ja6 hm),Nat.le_trans h.den (Nat.pow_le_pow_right ja6 hm)⟩
theorem jaU {m:Nat} {z:Int} (h:z.natAbs≤B64^m) (hm:m < 100000):Lim z:=by
 have hB:1 < B64:=by rw [ja3];omega
 generalize hk:(100000:Nat)=k at hm;refine ⟨?_⟩;rw [hk];exact Nat.lt_of_le_of_lt h (Nat.pow_lt_pow_right hB hm)
theorem Sz.limN {m:Nat} {x:Rat} (h:Sz m x) (hm:m < 100000):Lim x.num:=jaU h.num hm
theorem Sz.limD {m:Nat} {x:Rat} (h:Sz m x) (hm:m < 100000):Lim ((x.den:Nat):Int):=jaU (by simpa using h.den) hm

section
variable {s a t b:Int} {A B:Option Addr} {n c m d:Nat} {w:World} {x:Rat}
theorem ji8 (h:Rep w s A n c a):Calls prog 100 #[iv s A n c] w (jaa (a:Rat) w):=by
 have HR1:=qh (show ∀W,Below w.heap.size w W→Rep W s A n c (a:Rat).num from fun W hb=>h.below hb);clear h;go_enter func100,ntmps100;go_wp2
 go_region_held3 (fun w'=>w'.cell? ⟨w.heap.size,0,none⟩=some (.int .i64 s)∧w'.cell? ⟨w.heap.size,1,none⟩=some (.slice A n c))
  (refine ⟨?_, ?_⟩ <;> first|(go_split_ands;(with_reducible refine ja9 hb1 ?_);(with_reducible assumption))|(go_keep;done)|(go_split_ands;(repeat rw [World.cell?_setCell_far _ _ _ _ (by dsimp only;omega)]);assumption))
  (((go_at_call 118;(with_reducible refine mi2 w (jg7 1 _ (by constructor <;> decide)) (by go_size) fun w1 s1 A1 n1 c1 hr1 hb1 hc1 hf1 z1_0 z1_1 _=> ?_))))
 go_wp2;have e1:Rep w1 s1 A1 n1 c1 (((a:Rat).den:Nat):Int):=hr1;exact bodyPost_ret (v:= .agg #[.int .i64 (s), .slice (A) (n) (c), .int .i64 (s1), .slice (A1) (n1) (c1)]) (by simp [results,results100,go_sem,hc1,z1_0,z1_1]) rfl (jan rfl ⟨(HR1.o _ bi),(by with_reducible repeat first|assumption|apply rZ|refine rP ?_ rfl (by simp [go_sem,hc1,z1_0,z1_1]))⟩ bi)

theorem jvd (h:R64 a):Calls prog 67 #[.int .i64 a] w (jaa (a:Rat) w):=by
 have H:=qh h;clear h;go_enter func67,ntmps67
 go_wp2_with (first
  | (go_at_call 118;(with_reducible refine mi1 w (jg7 a _ H.o) (by go_size) fun w1 s1 A1 n1 c1 hr1 hb1 hc1 hf1 z1_0 _=> ?_))
  | (go_at_call 100;(with_reducible refine mf1 w (ji8 hr1) (by go_size) fun w2 s2 A2 n2 c2 t2 B2 m2 d2 hr2 hq2 hb2 hc2 hf2 z2_0 _=> ?_)))
 exact bodyPost_ret (v:= .agg #[.int .i64 (s2), .slice (A2) (n2) (c2), .int .i64 (t2), .slice (B2) (m2) (d2)]) (by simp [results,results67,go_sem,hc2,z1_0,hc1]) rfl (jan rfl (by constructor <;> (with_reducible repeat first|assumption|apply rZ|refine rP ?_ rfl (by simp [go_sem,hc2,z1_0,hc1]))) bi)

theorem jlS (h:RepF w s A n c t B m d x):Calls prog 68 #[fv s A n c t B m d] w fun e w'=>e= .returned (.int .i64 (sgn x.num))∧Below w.heap.size w w':=by
 have H:=qh h;clear h;go_enter func68,ntmps68;go_wp2_with (go_at_call 119;(with_reducible refine mo1 w (je5 (H.o.num.below bi)) (by go_size) fun w1 hb1 hc1 hf1 z1_0 _=> ?_))
 go_ret;exact ⟨rfl,bi⟩

theorem jk3 {t:Int} {B:Option Addr} {m d:Nat} {z:Int} (h:Rep w t B m d z):(B.isNone && (t==1))=decide (z=1):=by
 cases h with
 | small _ h0 h1=>simp [Option.isNone];rw [Bool.eq_iff_iff];simp
 | plus A n c ds h=>
   obtain ⟨b,o,e,_⟩:=h.wd.at_ h.pos;have:=h.big;subst e;simp [Option.isNone];omega
 | minus A n c ds h=>
   obtain ⟨b,o,e,_⟩:=h.wd.at_ h.pos;have:=h.big;subst e;simp [Option.isNone];omega

theorem jjz (h:RepF w s A n c t B m d x):Calls prog 103 #[fv s A n c t B m d] w fun e w'=>e= .returned (.bool (decide (x.den=1)))∧Below w.heap.size w w':=by
 have e1:=jk3 h.den;have e2:decide (((x.den:Nat):Int)=1)=decide (x.den=1):=by rw [decide_eq_decide];omega
 rw [←e2,←e1];clear e1 e2 h;have qe:=jak;rcases B with _|p
 ·go_enter func103,ntmps103;go_wp2;go_ret;exact ⟨by simp [Option.isNone],bi⟩
 ·go_enter func103,ntmps103;go_wp2;go_ret;exact ⟨by simp [Option.isNone],bi⟩

theorem jok (h:RepF w s A n c t B m d x):Calls prog 137 #[fv s A n c t B m d] w (jaa (-x) w):=by
 have H:=qh h;clear h;go_enter func137,ntmps137;go_wp2
 go_region_held3 (fun w'=>w'.cell? ⟨w.heap.size,0,none⟩=some (.int .i64 s)∧w'.cell? ⟨w.heap.size,1,none⟩=some (.slice A n c)∧w'.cell? ⟨w.heap.size,2,none⟩=some (.int .i64 t)∧w'.cell? ⟨w.heap.size,3,none⟩=some (.slice B m d))
  (refine ⟨?_, ?_, ?_, ?_⟩ <;> first|(go_split_ands;(with_reducible refine ja9 hb1 ?_);(with_reducible assumption))|(go_keep;done)|(go_split_ands;(repeat rw [World.cell?_setCell_far _ _ _ _ (by dsimp only;omega)]);assumption))
  (((go_at_call 125;(with_reducible refine mi2 w (neg_num (H.o.num.below bi)) (by go_size) fun w1 s1 A1 n1 c1 hr1 hb1 hc1 hf1 z1_0 z1_1 _=> ?_))))
 go_wp2;have e1:Rep w1 s1 A1 n1 c1 (-x).num:=hr1;exact bodyPost_ret (v:= .agg #[.int .i64 (s1), .slice (A1) (n1) (c1), .int .i64 (t), .slice (B) (m) (d)]) (by simp [results,results137,go_sem,hc1,z1_0,z1_1]) rfl (jan rfl ⟨(by with_reducible repeat first|assumption|apply rZ|refine rP ?_ rfl (by simp [go_sem,hc1,z1_0,z1_1])),(H.o.den.below bi)⟩ bi)

theorem Sz.neg {m:Nat} {x:Rat} (h:Sz m x):Sz m (-x):=⟨by simpa using h.num,by simpa using h.den⟩
theorem Sz.int {m:Nat} {z:Int} (h:z.natAbs≤B64^m):Sz m (z:Rat):=⟨h,by simp;exact Nat.pow_pos ja6⟩
end
end Go.Proofs.YtfagcpcikjlboaaGreatDoor
