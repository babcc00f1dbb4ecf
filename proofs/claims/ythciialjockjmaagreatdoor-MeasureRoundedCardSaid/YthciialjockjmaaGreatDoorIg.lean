/- Parts. -/
import Derived.Test.YthciialjockjmaaGreatDoorIf
import Derived.Test.YthciialjockjmaaGreatDoorLd
set_option linter.all false
set_option maxRecDepth 100000
set_option maxHeartbeats 8000000
namespace Go.Proofs.YthciialjockjmaaGreatDoor
open Go Go.RowKit

theorem Rep.drew {w:World} {s z:Int} {A:Option Addr} {n c:Nat} (h:Rep w s A n c z):Rep w.drew s A n c z:=h.below ((Below.refl _ _).drew)
theorem Rep.drewN {w:World} {s z:Int} {A:Option Addr} {n c:Nat} (h:Rep w s A n c z) (k:Nat):Rep (w.drewN k) s A n c z:=h.below (jaF (Below.refl _ _) k)
theorem Rep.alloc {w:World} {s z:Int} {A:Option Addr} {n c:Nat} (h:Rep w s A n c z) (o:Obj):Rep (w.alloc o) s A n c z:=h.below (ja7 (Below.refl _ _) o)
theorem rD {w:World} {s z:Int} {A:Option Addr} {n c:Nat} (h:Rep w s A n c z):Rep w.drew s A n c z:=h.drew
theorem rN {w:World} {s z:Int} {A:Option Addr} {n c k:Nat} (h:Rep w s A n c z):Rep (w.drewN k) s A n c z:=h.drewN k
theorem rA {w:World} {s z:Int} {A:Option Addr} {n c:Nat} {o:Obj} (h:Rep w s A n c z):Rep (w.alloc o) s A n c z:=h.alloc o
theorem rB {w w':World} {s z:Int} {A:Option Addr} {n c:Nat} (h:Rep w s A n c z) (hb:Below w.heap.size w w'):Rep w' s A n c z:=h.below hb
theorem Rep.put2 {w:World} {s z:Int} {A:Option Addr} {n c b o o':Nat} {u v:Value} (h:Rep w s A n c z) (ho:o'=o+1) (h1:∃x,w.cell? ⟨b,o,none⟩=some (.int .i64 x)) (h2:∃B m d,w.cell? ⟨b,o',none⟩=some (.slice B m d)):
  Rep ((w.setCell ⟨b,o,none⟩ u).setCell ⟨b,o',none⟩ v) s A n c z:=by
 obtain ⟨x,h1⟩:=h1
 obtain ⟨B,m,d,h2⟩:=h2
 exact h.put ho h1 h2

theorem rP {w:World} {s z:Int} {A:Option Addr} {n c b o o':Nat} {u v:Value} (h:Rep w s A n c z) (ho:o'=o+1) (h1:(∃x,w.cell? ⟨b,o,none⟩=some (.int .i64 x))∧∃B m d,w.cell? ⟨b,o',none⟩=some (.slice B m d)):
  Rep ((w.setCell ⟨b,o,none⟩ u).setCell ⟨b,o',none⟩ v) s A n c z:=h.put2 ho h1.1 h1.2
theorem joO {a b:Int} (h:Lim a):Lim (sg (decide (a < 0)) (a.natAbs / b.natAbs)):=by
 refine ⟨?_⟩
 rw [jd4]
 exact Nat.lt_of_le_of_lt (Nat.div_le_self _ _) h.lt
theorem jpb {a b:Int} (h:Lim a):Lim (sg (decide (a < 0)) (a.natAbs % b.natAbs)):=by
 refine ⟨?_⟩
 rw [jd4]
 exact Nat.lt_of_le_of_lt (Nat.mod_le _ _) h.lt
theorem jiB {A A':Option Addr} {n c n' c' x y q r:Nat} {w:World} (hq:x / y=q) (hr:x % y=r) (h:NumW w A n c x) (h':NumW w A' n' c' y) (hx:Few x) (hy:0 < y):
  Calls Tryz.prog 125 #[.slice A n c, .slice A' n' c'] w fun e w'=>∃A n c B m d,e= .returned (.tuple #[.slice A n c, .slice B m d])∧NumW w' A n c q∧NumW w' B m d r∧Below w.heap.size w w':=by
 subst hq hr
 exact jji h h' hx hy
theorem jdc {g:Bool} {A:Option Addr} {n c x:Nat} {w:World} {z:Int} (hz:sg g x=z) (h:NumW w A n c x):Calls Tryz.prog 126 #[.bool g, .slice A n c] w (jaa z w):=by
 subst hz
 exact jaB h
theorem jaI {s z v:Int} {A:Option Addr} {n c:Nat} {w:World} (hv:sgn z=v) (h:Rep w s A n c z):Calls Tryz.prog 45 #[iv s A n c] w fun e w'=>e= .returned (.int .i64 v)∧Below w.heap.size w w':=by
 subst hv
 exact jdR h



theorem jkx {z:Int}:sgn z < 0↔z < 0:=by unfold sgn;split <;> (try split) <;> omega
theorem jrn {a b:Int} (hp:0 < b) (hs:0≤sgn (sg (decide (a < 0)) (a.natAbs % b.natAbs))):sg (decide (a < 0)) (a.natAbs / b.natAbs)=a / b∧sg (decide (a < 0)) (a.natAbs % b.natAbs)=a % b:=by
 have hs':¬sg (decide (a < 0)) (a.natAbs % b.natAbs) < 0:=fun h=>by have:=jkx.2 h;omega
 obtain ⟨y,rfl⟩:∃y:Nat,b=(y:Int):=⟨b.natAbs,by omega⟩
 rw [Int.natAbs_natCast] at*
 by_cases h:a < 0
 ·obtain ⟨x,rfl⟩:∃x:Nat,a= -(x:Int):=⟨a.natAbs,by omega⟩
  simp only [h,decide_true,sg,if_true,Int.natAbs_neg,Int.natAbs_natCast] at*
  have h0:x % y=0:=by omega
  have hd:(y:Int) ∣ (x:Int):=Int.natCast_dvd_natCast.2 (Nat.dvd_of_mod_eq_zero h0)
  rw [h0,Int.neg_ediv_of_dvd hd,Int.natCast_ediv]
  refine ⟨rfl, ?_⟩
  rw [Int.emod_eq_zero_of_dvd (Int.dvd_neg.2 hd)]
  rfl
 ·obtain ⟨x,rfl⟩:∃x:Nat,a=(x:Int):=⟨a.natAbs,by omega⟩
  simp only [h,decide_false,sg,Int.natAbs_natCast] at*
  exact ⟨rfl,rfl⟩
theorem jrm {a b:Int} (hp:0 < b) (hs:sgn (sg (decide (a < 0)) (a.natAbs % b.natAbs)) < 0):sg (decide (a < 0)) (a.natAbs / b.natAbs) - 1=a / b∧sg (decide (a < 0)) (a.natAbs % b.natAbs)+b=a % b:=by
 have hs':=jkx.1 hs
 obtain ⟨y,rfl⟩:∃y:Nat,b=(y:Int):=⟨b.natAbs,by omega⟩
 rw [Int.natAbs_natCast] at*
 by_cases h:a < 0
 ·obtain ⟨x,rfl⟩:∃x:Nat,a= -(x:Int):=⟨a.natAbs,by omega⟩
  simp only [h,decide_true,sg,if_true,Int.natAbs_neg,Int.natAbs_natCast] at*
  have h0:=Nat.mod_lt x (show 0 < y by omega)
  have h1:=Nat.div_add_mod x y
  have e: -(x:Int)=(y:Int)*(-((x / y:Nat):Int) - 1)+(-((x % y:Nat):Int)+y):=by
   rw [Int.mul_sub,Int.mul_neg,Int.mul_one,←Int.natCast_mul]
   omega
  have h2:(-((x % y:Nat):Int)+y) < (y:Int):=by omega
  have h3:0≤(-((x % y:Nat):Int)+y):=by omega
  constructor
  ·rw [e,Int.add_comm,Int.add_mul_ediv_left _ _ (by omega),Int.ediv_eq_zero_of_lt h3 h2,Int.zero_add]
  ·rw [e,Int.add_comm ((y:Int)*_),Int.add_mul_emod_self_left,Int.emod_eq_of_lt h3 h2]
 ·exfalso
  simp only [h,decide_false,sg] at hs'
  simp at hs'
  omega

section
variable {s a t b:Int} {A B:Option Addr} {n c m d:Nat} {w:World}
theorem jcU (hcase:(∃p,A=some p)∨(A=none∧∃q,B=some q)∨(A=none∧B=none∧s= -9223372036854775808)) (h:Rep w s A n c a) (h':Rep w t B m d b) (hl:Lim a) (hl':Lim b) (hp:0 < b):
  Calls Tryz.prog 85 #[iv s A n c,iv t B m d] w (jcT (a / b) (a % b) w):=by
 have qe:=jaq
 have heA:=jrn (a:=a) hp
 have heB:=jrm (a:=a) hp
 have HR1:=qh (show ∀W,Below w.heap.size w W→Rep W (s) (A) (n) (c) (a) from fun W hb=>h.below hb)
 have HR2:=qh (show ∀W,Below w.heap.size w W→Rep W (t) (B) (m) (d) (b) from fun W hb=>h'.below hb)
 have HL1:=qh hl.few
 have HL2:=qh hl'
 have HLQ:=qh (joO (b:=b) hl)
 have HLR:=qh (jpb (b:=b) hl)
 obtain ⟨x,hx⟩:∃x,(a).natAbs=x:=⟨_,rfl⟩
 obtain ⟨y,hy⟩:∃y,(b).natAbs=y:=⟨_,rfl⟩
 obtain ⟨g,hg⟩:∃g,decide (a < 0)=g:=⟨_,rfl⟩
 obtain ⟨g',hg'⟩:∃g,decide (b < 0)=g:=⟨_,rfl⟩
 obtain ⟨q,hq⟩:∃q,x / y=q:=⟨_,rfl⟩
 obtain ⟨r,hr⟩:∃r,x % y=r:=⟨_,rfl⟩
 obtain ⟨zq,hzq⟩:∃z,sg g q=z:=⟨_,rfl⟩
 obtain ⟨zr,hzr⟩:∃z,sg g r=z:=⟨_,rfl⟩
 obtain ⟨sv,hsv⟩:∃z,sgn zr=z:=⟨_,rfl⟩
 have hy0:0 < y:=by omega
 rw [hx] at HL1
 rw [hx,hy,hg,hq,hzq] at HLQ
 rw [hx,hy,hg,hr,hzr] at HLR
 have HX:=qh hx
 have HY:=qh hy
 have HG:=qh hg
 have HG':=qh hg'
 have HQ:=qh hq
 have HR:=qh hr
 have HZQ:=qh hzq
 have HZR:=qh hzr
 have HSV:=qh hsv
 have HY0:=qh hy0
 clear h h' hl hl' hx hy hg hg' hq hr hzq hzr hsv hy0
 rw [HX.out,HY.out,HG.out,HR.out,HQ.out,HZR.out,HZQ.out,HSV.out] at heA heB
 have HEA:=qh heA
 have HEB:=qh heB
 have HCASE:=qh hcase
 clear heA heB hp hcase
 go_enter Tryz.func85,Tryz.ntmps85
 go_upto_region 1 with (fail)
 go_cut [28] (fun v wx=>v= .bool false∧wx=(((w.alloc (.cells #[.int .i64 s, .slice A n c] 67)).alloc (.cells #[.int .i64 t, .slice B m d] 67)).alloc (.cells #[.int .i64 0, .slice none 0 0] 67)).alloc (.cells #[.int .i64 0, .slice none 0 0] 67))
 case first=>
  rcases HCASE.out with ⟨p,rfl⟩|⟨rfl,q,rfl⟩|⟨rfl,rfl,rfl⟩
  all_goals
   go_wp2
   go_meet
   exact ⟨rfl,rfl⟩
 case rest=>
  obtain ⟨rfl,rfl⟩:=hcut
  by_cases hs:sv < 0
  ·have qs:decide (sv < 0)=true:=by simp;omega
   have HE:=qh (HEB.out hs)
   clear hs
   go_wp2_with (first
 | (go_at_call 124;(with_reducible refine (jak (HR1.out _ (bq (by with_reducible repeat' first|assumption|constructor|go_size))) HG.out HX.out).mono ?_);rintro e1 w1 ⟨A1,n1,c1,rfl,hr1,hb1⟩;obtain ⟨hc1,hf1,z1_0,z1_1,z1_2,z1_3⟩:=bc4 w hb1 (by go_size);(try simp only [dw] at hc1 hf1))
 | (go_at_call 124;(with_reducible refine (jak (HR2.out _ (bq (by with_reducible repeat' first|assumption|constructor|go_size))) HG'.out HY.out).mono ?_);rintro e2 w2 ⟨A2,n2,c2,rfl,hr2,hb2⟩;obtain ⟨hc2,hf2,z2_0,z2_1,z2_2,z2_3⟩:=bc4 w hb2 (by go_size);(try simp only [dw] at hc2 hf2))
 | (go_at_call 125;((with_reducible refine (jiB HQ.out HR.out (hr1.below hb2) hr2 HL1.out HY0.out).mono ?_);rintro e3 w3 ⟨A3,n3,c3,B3,m3,d3,rfl,hq3,hr3,hb3⟩);obtain ⟨hc3,hf3,z3_0,z3_1,z3_2,z3_3⟩:=bc4 w hb3 (by go_size);(try simp only [dw] at hc3 hf3))
 | (go_at_call 126;(with_reducible refine (jdc HZQ.out hq3).mono ?_);rintro e4 w4 ⟨s4,A4,n4,c4,rfl,hr4,hb4⟩;obtain ⟨hc4,hf4,z4_0,z4_1,z4_2,z4_3⟩:=bc4 w hb4 (by go_size);(try simp only [dw] at hc4 hf4))
 | (go_at_call 126;(with_reducible refine (jdc HZR.out (hr3.below hb4)).mono ?_);rintro e5 w5 ⟨s5,A5,n5,c5,rfl,hr5,hb5⟩;obtain ⟨hc5,hf5,z5_0,z5_1,z5_2,z5_3⟩:=bc4 w hb5 (by go_size);(try simp only [dw] at hc5 hf5))
 | ((go_at_call 45;(with_reducible refine (jaI HSV.out (hr5.below (bq (by with_reducible repeat' first|assumption|constructor|go_size)))).mono ?_);rintro e6 w6 ⟨rfl,hb6⟩;obtain ⟨hc6,hf6,z6_0,z6_1,z6_2,z6_3⟩:=bc4 w hb6 (by go_size);(try simp only [dw] at hc6 hf6));have y6_0:w5.heap.size < w6.heap.size:=(by have:=hb6.size;(try simp at this);omega);have y6_1:w5.heap.size+1 < w6.heap.size:=(by have:=hb6.size;(try simp at this);omega)))
   refine ja4 (fun w'=>Below w6.heap.size w6 w') [6,7] (by kernel_rfl) ?_
   refine jaz [2] (i:=0) (v:= .agg #[.int .i64 s4, .slice A4 n4 c4]) rfl (by kernel_rfl) (by kernel_rfl) (by kernel_rfl) (by kernel_rfl) (by kernel_rfl) (fun _ _ _ h=>h) (Or.inl ⟨by rfl, ?_⟩) (bq (by with_reducible repeat' first|assumption|constructor|go_size)) ?_
   ·intro w' hS'
    obtain ⟨hcS,hfS⟩:=ja0 hS'
    go_simp
   simp only [Act.put,List.setIfInBounds_toArray,List.set_cons_zero,List.set_cons_succ]
   refine jaz [5] (i:=3) (v:= .agg #[.int .i64 s5, .slice A5 n5 c5]) rfl (by kernel_rfl) (by kernel_rfl) (by kernel_rfl) (by kernel_rfl) (by kernel_rfl) (fun _ _ _ h=>h) (Or.inl ⟨by rfl, ?_⟩) (bq (by with_reducible repeat' first|assumption|constructor|go_size)) ?_
   ·intro w' hS'
    obtain ⟨hcS,hfS⟩:=ja0 hS'
    go_simp
   simp only [Act.put,List.setIfInBounds_toArray,List.set_cons_zero,List.set_cons_succ]
   refine jaz [5] (i:=4) (v:= .agg #[.int .i64 t, .slice B m d]) rfl (by kernel_rfl) (by kernel_rfl) (by kernel_rfl) (by kernel_rfl) (by kernel_rfl) (fun _ _ _ h=>h) (Or.inl ⟨by rfl, ?_⟩) (bq (by with_reducible repeat' first|assumption|constructor|go_size)) ?_
   ·intro w' hS'
    obtain ⟨hcS,hfS⟩:=ja0 hS'
    go_simp
   simp only [Act.put,List.setIfInBounds_toArray,List.set_cons_zero,List.set_cons_succ]
   refine ja1 (rs:=[1]) (by kernel_rfl) (by simp) (AllT.cons rfl (fun K hK=> ?_) AllT.nil)
   go_simp
   go_wp2_with ((go_at_call 47;(with_reducible refine (jbD 1 _ (by constructor <;> decide)).mono ?_);rintro e7 w7 ⟨s7,A7,n7,c7,rfl,hr7,hb7⟩;obtain ⟨hc7,hf7,z7_0,z7_1,z7_2,z7_3⟩:=bc4 w hb7 (by go_size);(try simp only [dw] at hc7 hf7));have y7_0:w5.heap.size < w7.heap.size:=(by have:=hb7.size;(try simp at this);omega);have y7_1:w5.heap.size+1 < w7.heap.size:=(by have:=hb7.size;(try simp at this);omega))
   refine hK.out _ _ (fun _=>(bq (by with_reducible repeat' first|assumption|constructor|go_size))) ?_
   clear hK K
   refine ja1 (rs:=[2]) (by kernel_rfl) (by simp) (AllT.cons rfl (fun K hK=> ?_) AllT.nil)
   go_simp
   go_wp2_with ((go_at_call 127;(with_reducible refine (jhq (a:=zq) (b:=1) (by with_reducible repeat first|assumption|apply rD|apply rN|apply rA|refine rP ?_ rfl (by simp [go_sem,hc6,z5_0,z5_1,z5_2,z5_3,nl z5_0,nl z5_1,nl z5_2,nl z5_3,hc5,z4_2,z4_3,hc4,z3_2,z3_3,hc3,z2_2,z2_3,hc2,z1_2,z1_3,hc1])|refine rB ?_ ‹_›) (by with_reducible repeat first|assumption|apply rD|apply rN|apply rA|refine rP ?_ rfl (by simp [go_sem,hc6,z5_0,z5_1,z5_2,z5_3,nl z5_0,nl z5_1,nl z5_2,nl z5_3,hc5,z4_2,z4_3,hc4,z3_2,z3_3,hc3,z2_2,z2_3,hc2,z1_2,z1_3,hc1])|refine rB ?_ ‹_›) HLQ.out (jca (by constructor <;> decide))).mono ?_);rintro e8 w8 ⟨s8,A8,n8,c8,rfl,hr8,hb8⟩;obtain ⟨hc8,hf8,z8_0,z8_1,z8_2,z8_3⟩:=bc4 w hb8 (by go_size);(try simp only [dw] at hc8 hf8));have y8_0:w5.heap.size < w8.heap.size:=(by have:=hb8.size;(try simp at this);omega);have y8_1:w5.heap.size+1 < w8.heap.size:=(by have:=hb8.size;(try simp at this);omega))
   refine hK.out _ _ (fun _=>(bq (by with_reducible repeat' first|assumption|constructor|go_size))) ?_
   clear hK K
   refine ja1 (rs:=[5]) (by kernel_rfl) (by simp) (AllT.cons rfl (fun K hK=> ?_) AllT.nil)
   go_simp
   go_wp2_with ((go_at_call 86;(with_reducible refine (jcR (a:=zr) (b:=b) (by with_reducible repeat first|assumption|apply rD|apply rN|apply rA|refine rP ?_ rfl (by simp [go_sem,hc6,z5_0,z5_1,z5_2,z5_3,nl z5_0,nl z5_1,nl z5_2,nl z5_3,hc5,z4_2,z4_3,hc4,z3_2,z3_3,hc3,z2_2,z2_3,hc2,z1_2,z1_3,hc1])|refine rB ?_ ‹_›) (HR2.out _ (bq (by with_reducible repeat' first|assumption|constructor|go_size))) HLR.out HL2.out).mono ?_);rintro e9 w9 ⟨s9,A9,n9,c9,rfl,hr9,hb9⟩;obtain ⟨hc9,hf9,z9_0,z9_1,z9_2,z9_3⟩:=bc4 w hb9 (by go_size);(try simp only [dw] at hc9 hf9));have y9_0:w5.heap.size < w9.heap.size:=(by have:=hb9.size;(try simp at this);omega);have y9_1:w5.heap.size+1 < w9.heap.size:=(by have:=hb9.size;(try simp at this);omega))
   refine hK.out _ _ (fun _=>(bq (by with_reducible repeat' first|assumption|constructor|go_size))) ?_
   clear hK K
   refine ja1 (rs:=[6]) (by kernel_rfl) (by simp) (AllT.cons rfl (fun K hK=> ?_) AllT.nil)
   go_simp
   refine hK.out _ _ (fun h=>(h (by decide)).elim) ?_
   clear hK K
   refine ja1 (rs:=[7]) (by kernel_rfl) (by simp) (AllT.cons rfl (fun K hK=> ?_) AllT.nil)
   go_simp
   refine hK.out _ _ (fun h=>(h (by decide)).elim) ?_
   clear hK K
   refine ja2 (by kernel_rfl) ?_ _
   go_wp2
   have f0:w9.cell? ⟨w5.heap.size,0,none⟩=some (.int .i64 s4):=by simp [go_sem,hc9,hc8,hc7,z8_2,z8_3,z7_2,z7_3,z6_2,z6_3,y8_0,y8_1,y7_0,y7_1,y6_0,y6_1,Nat.ne_of_gt z5_0,Nat.ne_of_gt z5_1,Nat.ne_of_gt z5_2,Nat.ne_of_gt z5_3,hc6,z5_0,z5_1,z5_2,z5_3,nl z5_0,nl z5_1,nl z5_2,nl z5_3,hc5,z4_2,z4_3,hc4,z3_2,z3_3,hc3,z2_2,z2_3,hc2,z1_2,z1_3,hc1]
   have f1:w9.cell? ⟨w5.heap.size,1,none⟩=some (.slice A4 n4 c4):=by simp [go_sem,hc9,hc8,hc7,z8_2,z8_3,z7_2,z7_3,z6_2,z6_3,y8_0,y8_1,y7_0,y7_1,y6_0,y6_1,Nat.ne_of_gt z5_0,Nat.ne_of_gt z5_1,Nat.ne_of_gt z5_2,Nat.ne_of_gt z5_3,hc6,z5_0,z5_1,z5_2,z5_3,nl z5_0,nl z5_1,nl z5_2,nl z5_3,hc5,z4_2,z4_3,hc4,z3_2,z3_3,hc3,z2_2,z2_3,hc2,z1_2,z1_3,hc1]
   have f2:w9.cell? ⟨w5.heap.size+1,0,none⟩=some (.int .i64 s5):=by simp [go_sem,hc9,hc8,hc7,z8_2,z8_3,z7_2,z7_3,z6_2,z6_3,y8_0,y8_1,y7_0,y7_1,y6_0,y6_1,Nat.ne_of_gt z5_0,Nat.ne_of_gt z5_1,Nat.ne_of_gt z5_2,Nat.ne_of_gt z5_3,hc6,z5_0,z5_1,z5_2,z5_3,nl z5_0,nl z5_1,nl z5_2,nl z5_3,hc5,z4_2,z4_3,hc4,z3_2,z3_3,hc3,z2_2,z2_3,hc2,z1_2,z1_3,hc1]
   have f3:w9.cell? ⟨w5.heap.size+1,1,none⟩=some (.slice A5 n5 c5):=by simp [go_sem,hc9,hc8,hc7,z8_2,z8_3,z7_2,z7_3,z6_2,z6_3,y8_0,y8_1,y7_0,y7_1,y6_0,y6_1,Nat.ne_of_gt z5_0,Nat.ne_of_gt z5_1,Nat.ne_of_gt z5_2,Nat.ne_of_gt z5_3,hc6,z5_0,z5_1,z5_2,z5_3,nl z5_0,nl z5_1,nl z5_2,nl z5_3,hc5,z4_2,z4_3,hc4,z3_2,z3_3,hc3,z2_2,z2_3,hc2,z1_2,z1_3,hc1]
   have f4:w9.cell? ⟨w.heap.size+1+1,0,none⟩=some (.int .i64 0):=by simp [go_sem,hc9,hc8,hc7,z8_2,z8_3,z7_2,z7_3,z6_2,z6_3,y8_0,y8_1,y7_0,y7_1,y6_0,y6_1,Nat.ne_of_gt z5_0,Nat.ne_of_gt z5_1,Nat.ne_of_gt z5_2,Nat.ne_of_gt z5_3,hc6,z5_0,z5_1,z5_2,z5_3,nl z5_0,nl z5_1,nl z5_2,nl z5_3,hc5,z4_2,z4_3,hc4,z3_2,z3_3,hc3,z2_2,z2_3,hc2,z1_2,z1_3,hc1]
   have f5:w9.cell? ⟨w.heap.size+1+1,1,none⟩=some (.slice none 0 0):=by simp [go_sem,hc9,hc8,hc7,z8_2,z8_3,z7_2,z7_3,z6_2,z6_3,y8_0,y8_1,y7_0,y7_1,y6_0,y6_1,Nat.ne_of_gt z5_0,Nat.ne_of_gt z5_1,Nat.ne_of_gt z5_2,Nat.ne_of_gt z5_3,hc6,z5_0,z5_1,z5_2,z5_3,nl z5_0,nl z5_1,nl z5_2,nl z5_3,hc5,z4_2,z4_3,hc4,z3_2,z3_3,hc3,z2_2,z2_3,hc2,z1_2,z1_3,hc1]
   have f6:w9.cell? ⟨w.heap.size+1+1+1,0,none⟩=some (.int .i64 0):=by simp [go_sem,hc9,hc8,hc7,z8_2,z8_3,z7_2,z7_3,z6_2,z6_3,y8_0,y8_1,y7_0,y7_1,y6_0,y6_1,Nat.ne_of_gt z5_0,Nat.ne_of_gt z5_1,Nat.ne_of_gt z5_2,Nat.ne_of_gt z5_3,hc6,z5_0,z5_1,z5_2,z5_3,nl z5_0,nl z5_1,nl z5_2,nl z5_3,hc5,z4_2,z4_3,hc4,z3_2,z3_3,hc3,z2_2,z2_3,hc2,z1_2,z1_3,hc1]
   have f7:w9.cell? ⟨w.heap.size+1+1+1,1,none⟩=some (.slice none 0 0):=by simp [go_sem,hc9,hc8,hc7,z8_2,z8_3,z7_2,z7_3,z6_2,z6_3,y8_0,y8_1,y7_0,y7_1,y6_0,y6_1,Nat.ne_of_gt z5_0,Nat.ne_of_gt z5_1,Nat.ne_of_gt z5_2,Nat.ne_of_gt z5_3,hc6,z5_0,z5_1,z5_2,z5_3,nl z5_0,nl z5_1,nl z5_2,nl z5_3,hc5,z4_2,z4_3,hc4,z3_2,z3_3,hc3,z2_2,z2_3,hc2,z1_2,z1_3,hc1]
   have g0:∀o,w9.frozen? ⟨w.heap.size+1+1,o,none⟩=false:=by intro o;simp [go_sem,hf9,hf8,hf7,hf6,hf5,hf4,hf3,hf2,hf1,z5_0,z5_1,z8_2,z8_3,z7_2,z7_3,z6_2,z6_3,z5_2,z5_3,z4_2,z4_3,z3_2,z3_3,z2_2,z2_3,z1_2,z1_3,nl z5_0,nl z5_1,nl z5_2,nl z5_3]
   have g1:∀o,w9.frozen? ⟨w.heap.size+1+1+1,o,none⟩=false:=by intro o;simp [go_sem,hf9,hf8,hf7,hf6,hf5,hf4,hf3,hf2,hf1,z5_0,z5_1,z8_2,z8_3,z7_2,z7_3,z6_2,z6_3,z5_2,z5_3,z4_2,z4_3,z3_2,z3_3,z2_2,z2_3,z1_2,z1_3,nl z5_0,nl z5_1,nl z5_2,nl z5_3]
   have hn2:w.heap.size+1+1≠w5.heap.size:=nl z5_2
   have hn3:w.heap.size+1+1+1≠w5.heap.size:=nl z5_3
   clear hc1 hc2 hc3 hc4 hc5 hc6 hc7 hc8 hc9 hf1 hf2 hf3 hf4 hf5 hf6 hf7 hf8 hf9
   go_region
   go_wp2
   have e1:Rep w9 s9 A9 n9 c9 (a % b):=hr9.to HE.out.2
   have e2:Rep w8 s8 A8 n8 c8 (a / b):=hr8.to HE.out.1
   exact bodyPost_ret (v:= .tuple #[.agg #[.int .i64 (s8), .slice (A8) (n8) (c8)], .agg #[.int .i64 (s9), .slice (A9) (n9) (c9)]]) (by simp [results,Tryz.results85,go_sem,f0,f1,f2,f3,f4,f5,f6,f7,hn2,hn3,Ne.symm hn2,Ne.symm hn3,nl z5_0,nl z5_1,Nat.ne_of_gt z5_0,Nat.ne_of_gt z5_1]) rfl (jfv rfl ((by with_reducible repeat first|assumption|apply rD|apply rN|apply rA|refine rP ?_ rfl (by simp [go_sem,f0,f1,f2,f3,f4,f5,f6,f7,hn2,hn3,Ne.symm hn2,Ne.symm hn3,nl z5_0,nl z5_1,Nat.ne_of_gt z5_0,Nat.ne_of_gt z5_1])|refine rB ?_ ‹_›)) ((by with_reducible repeat first|assumption|apply rD|apply rN|apply rA|refine rP ?_ rfl (by simp [go_sem,f0,f1,f2,f3,f4,f5,f6,f7,hn2,hn3,Ne.symm hn2,Ne.symm hn3,nl z5_0,nl z5_1,Nat.ne_of_gt z5_0,Nat.ne_of_gt z5_1])|refine rB ?_ ‹_›)) (by exact (bq (by with_reducible repeat' first|assumption|constructor|go_size))))
  ·have qs:decide (sv < 0)=false:=by simp;omega
   have HE:=qh (HEA.out (Int.not_lt.1 hs))
   clear hs
   go_wp2_with (first
 | (go_at_call 124;(with_reducible refine (jak (HR1.out _ (bq (by with_reducible repeat' first|assumption|constructor|go_size))) HG.out HX.out).mono ?_);rintro e1 w1 ⟨A1,n1,c1,rfl,hr1,hb1⟩;obtain ⟨hc1,hf1,z1_0,z1_1,z1_2,z1_3⟩:=bc4 w hb1 (by go_size);(try simp only [dw] at hc1 hf1))
 | (go_at_call 124;(with_reducible refine (jak (HR2.out _ (bq (by with_reducible repeat' first|assumption|constructor|go_size))) HG'.out HY.out).mono ?_);rintro e2 w2 ⟨A2,n2,c2,rfl,hr2,hb2⟩;obtain ⟨hc2,hf2,z2_0,z2_1,z2_2,z2_3⟩:=bc4 w hb2 (by go_size);(try simp only [dw] at hc2 hf2))
 | (go_at_call 125;((with_reducible refine (jiB HQ.out HR.out (hr1.below hb2) hr2 HL1.out HY0.out).mono ?_);rintro e3 w3 ⟨A3,n3,c3,B3,m3,d3,rfl,hq3,hr3,hb3⟩);obtain ⟨hc3,hf3,z3_0,z3_1,z3_2,z3_3⟩:=bc4 w hb3 (by go_size);(try simp only [dw] at hc3 hf3))
 | (go_at_call 126;(with_reducible refine (jdc HZQ.out hq3).mono ?_);rintro e4 w4 ⟨s4,A4,n4,c4,rfl,hr4,hb4⟩;obtain ⟨hc4,hf4,z4_0,z4_1,z4_2,z4_3⟩:=bc4 w hb4 (by go_size);(try simp only [dw] at hc4 hf4))
 | (go_at_call 126;(with_reducible refine (jdc HZR.out (hr3.below hb4)).mono ?_);rintro e5 w5 ⟨s5,A5,n5,c5,rfl,hr5,hb5⟩;obtain ⟨hc5,hf5,z5_0,z5_1,z5_2,z5_3⟩:=bc4 w hb5 (by go_size);(try simp only [dw] at hc5 hf5))
 | ((go_at_call 45;(with_reducible refine (jaI HSV.out (hr5.below (bq (by with_reducible repeat' first|assumption|constructor|go_size)))).mono ?_);rintro e6 w6 ⟨rfl,hb6⟩;obtain ⟨hc6,hf6,z6_0,z6_1,z6_2,z6_3⟩:=bc4 w hb6 (by go_size);(try simp only [dw] at hc6 hf6));have y6_0:w5.heap.size < w6.heap.size:=(by have:=hb6.size;(try simp at this);omega);have y6_1:w5.heap.size+1 < w6.heap.size:=(by have:=hb6.size;(try simp at this);omega)))
   go_region
   go_wp2
   have e1:Rep w5 s5 A5 n5 c5 (a % b):=hr5.to HE.out.2
   have e2:Rep w4 s4 A4 n4 c4 (a / b):=hr4.to HE.out.1
   exact bodyPost_ret (v:= .tuple #[.agg #[.int .i64 (s4), .slice (A4) (n4) (c4)], .agg #[.int .i64 (s5), .slice (A5) (n5) (c5)]]) (by simp [results,Tryz.results85,go_sem,hc6,z5_0,z5_1,z5_2,z5_3,nl z5_0,nl z5_1,nl z5_2,nl z5_3,hc5,z4_2,z4_3,hc4,z3_2,z3_3,hc3,z2_2,z2_3,hc2,z1_2,z1_3,hc1]) rfl (jfv rfl ((by with_reducible repeat first|assumption|apply rD|apply rN|apply rA|refine rP ?_ rfl (by simp [go_sem,hc6,z5_0,z5_1,z5_2,z5_3,nl z5_0,nl z5_1,nl z5_2,nl z5_3,hc5,z4_2,z4_3,hc4,z3_2,z3_3,hc3,z2_2,z2_3,hc2,z1_2,z1_3,hc1])|refine rB ?_ ‹_›)) ((by with_reducible repeat first|assumption|apply rD|apply rN|apply rA|refine rP ?_ rfl (by simp [go_sem,hc6,z5_0,z5_1,z5_2,z5_3,nl z5_0,nl z5_1,nl z5_2,nl z5_3,hc5,z4_2,z4_3,hc4,z3_2,z3_3,hc3,z2_2,z2_3,hc2,z1_2,z1_3,hc1])|refine rB ?_ ‹_›)) (by exact (bq (by with_reducible repeat' first|assumption|constructor|go_size))))
end
end Go.Proofs.YthciialjockjmaaGreatDoor
