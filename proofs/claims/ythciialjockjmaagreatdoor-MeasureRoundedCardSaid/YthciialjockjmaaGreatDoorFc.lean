/- Parts. -/
import Derived.Test.YthciialjockjmaaGreatDoorFb
set_option linter.all false
set_option maxRecDepth 100000
set_option maxHeartbeats 8000000
namespace Go.Proofs.YthciialjockjmaaGreatDoor
open Go Go.RowKit
section
variable {s a t b:Int} {A B:Option Addr} {n c m d:Nat} {w:World}

theorem jmH (h:Rep w s A n c a) (h':Rep w t B m d b) (hl:Lim a) (hl':Lim b) (hp:b < 0) {na nb:Int} (ha: -a=na) (hb: -b=nb):Calls Tryz.prog 46 #[iv s A n c,iv t B m d] w (jae (Rat.divInt na nb) w):=by
 have qe:=jaq
 have HR1:=Lib.hid (show ∀W,Below w.heap.size w W→Rep W s A n c a from fun W hb=>h.below hb)
 have HR2:=Lib.hid (show ∀W,Below w.heap.size w W→Rep W t B m d b from fun W hb=>h'.below hb)
 have HS:=Lib.hid (show sgn b= -1 by unfold sgn;rw [if_pos hp])
 have HA:=Lib.hid ha
 have HB:=Lib.hid hb
 have HL1:=Lib.hid (ha ▸ hl.neg:Lim na)
 have HL2:=Lib.hid (hb ▸ hl'.neg:Lim nb)
 have HP:=Lib.hid (show 0 < nb by omega)
 obtain ⟨x,hx⟩:∃x,Rat.divInt na nb=x:=⟨_,rfl⟩
 rw [hx]
 have HX:=Lib.hid hx
 clear h h' hl hl' hp ha hb hx
 go_enter Tryz.func46,Tryz.ntmps46
 go_wp2_with (first
  | (go_at_call 45;((with_reducible refine (jaI HS.out (HR2.out _ (by with_reducible repeat first|exact bR|assumption|apply bA|apply bD|apply bN|refine bC ?_ (by go_size)|refine bS ?_ ‹_›))).mono ?_);rintro e1 w1 ⟨rfl,hb1⟩);obtain ⟨hc1,hf1⟩:=ja0 hb1;(try simp only [dw] at hc1 hf1);have z1_0:w.heap.size < w1.heap.size:=(by have:=hb1.size;(try simp at this);omega);have z1_1:w.heap.size+1 < w1.heap.size:=(by have:=hb1.size;(try simp at this);omega);have z1_2:w.heap.size+1+1 < w1.heap.size:=(by have:=hb1.size;(try simp at this);omega)))
 refine ja4 (fun w'=>Below w1.heap.size w1 w') [4,5] (by kernel_rfl) ?_
 refine tb 0 (.agg #[.int .i64 s, .slice A n c]) [1] rfl (by kernel_rfl) (fun _ _ _ h=>h) (by rfl) (fun _ hcS hfS=>by go_simp) (by with_reducible repeat first|exact bR|assumption|apply bA|apply bD|apply bN|refine bC ?_ (by go_size)|refine bS ?_ ‹_›) ?_
 simp only [Act.put,pA,pB,pC,pD,pE,pF]
 refine tb 2 (.agg #[.int .i64 t, .slice B m d]) [3] rfl (by kernel_rfl) (fun _ _ _ h=>h) (by rfl) (fun _ hcS hfS=>by go_simp) (by with_reducible repeat first|exact bR|assumption|apply bA|apply bD|apply bN|refine bC ?_ (by go_size)|refine bS ?_ ‹_›) ?_
 simp only [Act.put,pA,pB,pC,pD,pE,pF]
 refine rd1 1 (by kernel_rfl) rfl (fun K hK=> ?_)
 go_simp
 go_wp2_with (go_at_call 100;((with_reducible refine (jdK HA.out (HR1.out _ (by with_reducible repeat first|exact bR|assumption|apply bA|apply bD|apply bN|refine bC ?_ (by go_size)|refine bS ?_ ‹_›))).mono ?_);rintro e3 w3 ⟨s3,A3,n3,c3,rfl,hr3,hb3⟩);obtain ⟨hc3,hf3⟩:=ja0 hb3;(try simp only [dw] at hc3 hf3);have z3_0:w.heap.size < w3.heap.size:=(by have:=hb3.size;(try simp at this);omega);have z3_1:w.heap.size+1 < w3.heap.size:=(by have:=hb3.size;(try simp at this);omega);have z3_2:w.heap.size+1+1 < w3.heap.size:=(by have:=hb3.size;(try simp at this);omega))
 refine hK.out _ _ (fun _=>(by with_reducible repeat first|exact bR|assumption|apply bA|apply bD|apply bN|refine bC ?_ (by go_size)|refine bS ?_ ‹_›)) ?_
 clear hK K
 refine rd1 3 (by kernel_rfl) rfl (fun K hK=> ?_)
 go_simp
 go_wp2_with (go_at_call 100;((with_reducible refine (jdK HB.out (HR2.out _ (by with_reducible repeat first|exact bR|assumption|apply bA|apply bD|apply bN|refine bC ?_ (by go_size)|refine bS ?_ ‹_›))).mono ?_);rintro e4 w4 ⟨s4,A4,n4,c4,rfl,hr4,hb4⟩);obtain ⟨hc4,hf4⟩:=ja0 hb4;(try simp only [dw] at hc4 hf4);have z4_0:w.heap.size < w4.heap.size:=(by have:=hb4.size;(try simp at this);omega);have z4_1:w.heap.size+1 < w4.heap.size:=(by have:=hb4.size;(try simp at this);omega);have z4_2:w.heap.size+1+1 < w4.heap.size:=(by have:=hb4.size;(try simp at this);omega))
 refine hK.out _ _ (fun _=>(by with_reducible repeat first|exact bR|assumption|apply bA|apply bD|apply bN|refine bC ?_ (by go_size)|refine bS ?_ ‹_›)) ?_
 clear hK K
 refine rd1 4 (by kernel_rfl) rfl (fun K hK=> ?_)
 go_simp
 refine hK.out _ _ (fun h=>(h (by decide)).elim) ?_
 clear hK K
 refine rd1 5 (by kernel_rfl) rfl (fun K hK=> ?_)
 go_simp
 refine hK.out _ _ (fun h=>(h (by decide)).elim) ?_
 clear hK K
 refine ja2 (by kernel_rfl) ?_ _
 have f0:w4.cell? ⟨w.heap.size,0,none⟩=some (.int .i64 s):=by simp [go_sem,hc4,hc3,hc1,z4_0,z4_1,z4_2,z3_0,z3_1,z3_2,z1_0,z1_1,z1_2]
 have f1:w4.cell? ⟨w.heap.size,1,none⟩=some (.slice A n c):=by simp [go_sem,hc4,hc3,hc1,z4_0,z4_1,z4_2,z3_0,z3_1,z3_2,z1_0,z1_1,z1_2]
 have f2:w4.cell? ⟨w.heap.size+1,0,none⟩=some (.int .i64 t):=by simp [go_sem,hc4,hc3,hc1,z4_0,z4_1,z4_2,z3_0,z3_1,z3_2,z1_0,z1_1,z1_2]
 have f3:w4.cell? ⟨w.heap.size+1,1,none⟩=some (.slice B m d):=by simp [go_sem,hc4,hc3,hc1,z4_0,z4_1,z4_2,z3_0,z3_1,z3_2,z1_0,z1_1,z1_2]
 have e3:Rep ((((w4.setCell ⟨w.heap.size,0,none⟩ (.int .i64 s3)).setCell ⟨w.heap.size,1,none⟩ (.slice A3 n3 c3)).setCell ⟨w.heap.size+1,0,none⟩ (.int .i64 s4)).setCell ⟨w.heap.size+1,1,none⟩ (.slice A4 n4 c4)) s3 A3 n3 c3 na:=(by with_reducible repeat first|assumption|apply rD|apply rN|apply rA|refine rP ?_ rfl (by simp [go_sem,f0,f1,f2,f3])|refine rB ?_ ‹_›)
 have e4:Rep ((((w4.setCell ⟨w.heap.size,0,none⟩ (.int .i64 s3)).setCell ⟨w.heap.size,1,none⟩ (.slice A3 n3 c3)).setCell ⟨w.heap.size+1,0,none⟩ (.int .i64 s4)).setCell ⟨w.heap.size+1,1,none⟩ (.slice A4 n4 c4)) s4 A4 n4 c4 nb:=(by with_reducible repeat first|assumption|apply rD|apply rN|apply rA|refine rP ?_ rfl (by simp [go_sem,f0,f1,f2,f3])|refine rB ?_ ‹_›)
 obtain ⟨W,hWW⟩:∃x,(((w4.setCell ⟨w.heap.size,0,none⟩ (.int .i64 s3)).setCell ⟨w.heap.size,1,none⟩ (.slice A3 n3 c3)).setCell ⟨w.heap.size+1,0,none⟩ (.int .i64 s4)).setCell ⟨w.heap.size+1,1,none⟩ (.slice A4 n4 c4)=x:=⟨_,rfl⟩
 have cW_0:W.cell? ⟨w.heap.size,0,none⟩=some (.int .i64 s3):=(by rw [←hWW];simp [go_sem,f0,f1,f2,f3,hc4,hc3,hc1,z4_0,z4_1,z4_2,z3_0,z3_1,z3_2,z1_0,z1_1,z1_2])
 have cW_1:W.cell? ⟨w.heap.size,1,none⟩=some (.slice A3 n3 c3):=(by rw [←hWW];simp [go_sem,f0,f1,f2,f3,hc4,hc3,hc1,z4_0,z4_1,z4_2,z3_0,z3_1,z3_2,z1_0,z1_1,z1_2])
 have cW_2:W.cell? ⟨w.heap.size+1,0,none⟩=some (.int .i64 s4):=(by rw [←hWW];simp [go_sem,f0,f1,f2,f3,hc4,hc3,hc1,z4_0,z4_1,z4_2,z3_0,z3_1,z3_2,z1_0,z1_1,z1_2])
 have cW_3:W.cell? ⟨w.heap.size+1,1,none⟩=some (.slice A4 n4 c4):=(by rw [←hWW];simp [go_sem,f0,f1,f2,f3,hc4,hc3,hc1,z4_0,z4_1,z4_2,z3_0,z3_1,z3_2,z1_0,z1_1,z1_2])
 have cW_4:W.cell? ⟨w.heap.size+1+1,0,none⟩=some (.int .i64 0):=(by rw [←hWW];simp [go_sem,f0,f1,f2,f3,hc4,hc3,hc1,z4_0,z4_1,z4_2,z3_0,z3_1,z3_2,z1_0,z1_1,z1_2])
 have cW_5:W.cell? ⟨w.heap.size+1+1,1,none⟩=some (.slice none 0 0):=(by rw [←hWW];simp [go_sem,f0,f1,f2,f3,hc4,hc3,hc1,z4_0,z4_1,z4_2,z3_0,z3_1,z3_2,z1_0,z1_1,z1_2])
 have cW_6:W.cell? ⟨w.heap.size+1+1,2,none⟩=some (.int .i64 0):=(by rw [←hWW];simp [go_sem,f0,f1,f2,f3,hc4,hc3,hc1,z4_0,z4_1,z4_2,z3_0,z3_1,z3_2,z1_0,z1_1,z1_2])
 have cW_7:W.cell? ⟨w.heap.size+1+1,3,none⟩=some (.slice none 0 0):=(by rw [←hWW];simp [go_sem,f0,f1,f2,f3,hc4,hc3,hc1,z4_0,z4_1,z4_2,z3_0,z3_1,z3_2,z1_0,z1_1,z1_2])
 have fW_0:∀o,W.frozen? ⟨w.heap.size+1+1,o,none⟩=false:=(by intro o;rw [←hWW];simp [go_sem,hf4,hf3,hf1,z4_0,z4_1,z4_2,z3_0,z3_1,z3_2,z1_0,z1_1,z1_2])
 have zW_0:w.heap.size < W.heap.size:=(by rw [←hWW];first|assumption|(simp;done)|(simp;omega))
 have zW_1:w.heap.size+1 < W.heap.size:=(by rw [←hWW];first|assumption|(simp;done)|(simp;omega))
 have zW_2:w.heap.size+1+1 < W.heap.size:=(by rw [←hWW];first|assumption|(simp;done)|(simp;omega))
 have bW:Below w.heap.size w W:=(by rw [←hWW];exact (by with_reducible repeat first|exact bR|assumption|apply bA|apply bD|apply bN|refine bC ?_ (by go_size)|refine bS ?_ ‹_›))
 simp only [hWW]
 rw [hWW] at e3 e4
 clear hWW f0 f1 f2 f3 hr3 hr4 hc4 hc3 hc1 hf4 hf3 hf1 hb1 hb3 hb4 z4_0 z4_1 z4_2 z3_0 z3_1 z3_2 z1_0 z1_1 z1_2
 have HRA:=Lib.hid (show ∀U,Below W.heap.size W U→Rep U s3 A3 n3 c3 na from fun U hb=>e3.below hb)
 have HRB:=Lib.hid (show ∀U,Below W.heap.size W U→Rep U s4 A4 n4 c4 nb from fun U hb=>e4.below hb)
 by_cases hone:nb=1
 ·subst hone
  have ho:=jio e4
  rcases A4 with _|q
  ·obtain ⟨rfl,rfl,rfl,_⟩:=e4.none_
   have e5:Rep W s3 A3 n3 c3 x.num:=e3.to (by rw [←HX.out,Rq.num_one])
   have e6:Rep W 1 none 0 0 ((x.den:Nat):Int):=e4.to (by rw [←HX.out,Rq.den_one];rfl)
   clear ho e3 e4
   go_wp2
   exact bodyPost_ret (v:= .agg #[.int .i64 (s3), .slice (A3) (n3) (c3), .int .i64 (1), .slice (none) (0) (0)]) (by simp [results,Tryz.results46,go_sem,cW_4,cW_5,cW_6,cW_7]) rfl (jao rfl ⟨(by with_reducible repeat first|assumption|apply rD|apply rN|apply rA|refine rP ?_ rfl (by simp [go_sem,cW_4,cW_5,cW_6,cW_7])|refine rB ?_ ‹_›),(by with_reducible repeat first|assumption|apply rD|apply rN|apply rA|refine rP ?_ rfl (by simp [go_sem,cW_4,cW_5,cW_6,cW_7])|refine rB ?_ ‹_›)⟩ (by with_reducible repeat first|exact bR|assumption|apply bA|apply bD|apply bN|refine bC ?_ (by go_size)|refine bS ?_ ‹_›))
  ·exact absurd ho (by simp)
 ·obtain ⟨g,hg⟩:∃g,Nat.gcd na.natAbs nb.natAbs=g:=⟨_,rfl⟩
  have hgp:=Rq.gcd_pos na (b:=nb) (by have:=HP.out;omega)
  have hgl:=Rq.gcd_le na (b:=nb) (by have:=HP.out;omega)
  have e1:=Rq.num_pos (a:=na) (b:=nb) HP.out
  have e2:=Rq.den_pos (a:=na) (b:=nb) HP.out
  rw [hg] at hgp hgl e1 e2
  rw [HX.out] at e1 e2
  have HG:=Lib.hid hg
  have HGL:=Lib.hid (show Lim ((g:Nat):Int) from jfB HL2.out (by simpa using hgl))
  have HGP:=Lib.hid (show ((g:Nat):Int)≠0 by omega)
  have HE1:=Lib.hid e1
  have HE2:=Lib.hid e2
  have HO:=Lib.hid hone
  clear e1 e2 hg hgp hgl hone
  rcases A4 with _|q
  ·have qt:(s4==1)=false:=by rw [beq_eq_false_iff_ne];have:=e4.none_.1;have:=HO.out;omega
   go_wp2_with (go_at_call 76;((with_reducible refine (jde HG.out (HRA.out _ (by with_reducible repeat first|exact bR|assumption|apply bA|apply bD|apply bN|refine bC ?_ (by go_size)|refine bS ?_ ‹_›)) (HRB.out _ (by with_reducible repeat first|exact bR|assumption|apply bA|apply bD|apply bN|refine bC ?_ (by go_size)|refine bS ?_ ‹_›)) HL1.out HL2.out).mono ?_);rintro e5 w5 ⟨s5,A5,n5,c5,rfl,hr5,hb5⟩);obtain ⟨hc5,hf5⟩:=ja0 hb5;(try simp only [dw] at hc5 hf5);have z5_0:w.heap.size < w5.heap.size:=(by have:=hb5.size;(try simp at this);omega);have z5_1:w.heap.size+1 < w5.heap.size:=(by have:=hb5.size;(try simp at this);omega);have z5_2:w.heap.size+1+1 < w5.heap.size:=(by have:=hb5.size;(try simp at this);omega))
   have e5:Rep (w5.alloc (.cells #[.int .i64 s5, .slice A5 n5 c5] 67)) s5 A5 n5 c5 (g:Nat):=(by with_reducible repeat first|assumption|apply rD|apply rN|apply rA|refine rP ?_ rfl (by simp [go_sem,hc5])|refine rB ?_ ‹_›)
   obtain ⟨V,hWV⟩:∃x,w5.alloc (.cells #[.int .i64 s5, .slice A5 n5 c5] 67)=x:=⟨_,rfl⟩
   have cV_0:V.cell? ⟨w.heap.size,0,none⟩=some (.int .i64 s3):=(by rw [←hWV];simp [go_sem,hc5,zW_0,zW_1,zW_2,cW_0,cW_1,cW_2,cW_3,cW_4,cW_5,cW_6,cW_7,z5_0,z5_1,z5_2,nl z5_0,nl z5_1,nl z5_2])
   have cV_1:V.cell? ⟨w.heap.size,1,none⟩=some (.slice A3 n3 c3):=(by rw [←hWV];simp [go_sem,hc5,zW_0,zW_1,zW_2,cW_0,cW_1,cW_2,cW_3,cW_4,cW_5,cW_6,cW_7,z5_0,z5_1,z5_2,nl z5_0,nl z5_1,nl z5_2])
   have cV_2:V.cell? ⟨w.heap.size+1,0,none⟩=some (.int .i64 s4):=(by rw [←hWV];simp [go_sem,hc5,zW_0,zW_1,zW_2,cW_0,cW_1,cW_2,cW_3,cW_4,cW_5,cW_6,cW_7,z5_0,z5_1,z5_2,nl z5_0,nl z5_1,nl z5_2])
   have cV_3:V.cell? ⟨w.heap.size+1,1,none⟩=some (.slice none n4 c4):=(by rw [←hWV];simp [go_sem,hc5,zW_0,zW_1,zW_2,cW_0,cW_1,cW_2,cW_3,cW_4,cW_5,cW_6,cW_7,z5_0,z5_1,z5_2,nl z5_0,nl z5_1,nl z5_2])
   have cV_4:V.cell? ⟨w.heap.size+1+1,0,none⟩=some (.int .i64 0):=(by rw [←hWV];simp [go_sem,hc5,zW_0,zW_1,zW_2,cW_0,cW_1,cW_2,cW_3,cW_4,cW_5,cW_6,cW_7,z5_0,z5_1,z5_2,nl z5_0,nl z5_1,nl z5_2])
   have cV_5:V.cell? ⟨w.heap.size+1+1,1,none⟩=some (.slice none 0 0):=(by rw [←hWV];simp [go_sem,hc5,zW_0,zW_1,zW_2,cW_0,cW_1,cW_2,cW_3,cW_4,cW_5,cW_6,cW_7,z5_0,z5_1,z5_2,nl z5_0,nl z5_1,nl z5_2])
   have cV_6:V.cell? ⟨w.heap.size+1+1,2,none⟩=some (.int .i64 0):=(by rw [←hWV];simp [go_sem,hc5,zW_0,zW_1,zW_2,cW_0,cW_1,cW_2,cW_3,cW_4,cW_5,cW_6,cW_7,z5_0,z5_1,z5_2,nl z5_0,nl z5_1,nl z5_2])
   have cV_7:V.cell? ⟨w.heap.size+1+1,3,none⟩=some (.slice none 0 0):=(by rw [←hWV];simp [go_sem,hc5,zW_0,zW_1,zW_2,cW_0,cW_1,cW_2,cW_3,cW_4,cW_5,cW_6,cW_7,z5_0,z5_1,z5_2,nl z5_0,nl z5_1,nl z5_2])
   have cV_8:V.cell? ⟨w5.heap.size,0,none⟩=some (.int .i64 s5):=(by rw [←hWV];simp [go_sem,hc5,zW_0,zW_1,zW_2,cW_0,cW_1,cW_2,cW_3,cW_4,cW_5,cW_6,cW_7,z5_0,z5_1,z5_2,nl z5_0,nl z5_1,nl z5_2])
   have cV_9:V.cell? ⟨w5.heap.size,1,none⟩=some (.slice A5 n5 c5):=(by rw [←hWV];simp [go_sem,hc5,zW_0,zW_1,zW_2,cW_0,cW_1,cW_2,cW_3,cW_4,cW_5,cW_6,cW_7,z5_0,z5_1,z5_2,nl z5_0,nl z5_1,nl z5_2])
   have fV_0:∀o,V.frozen? ⟨w.heap.size+1+1,o,none⟩=false:=(by intro o;rw [←hWV];simp [go_sem,hf5,fW_0,zW_2,z5_2,nl z5_2])
   have zV_0:w.heap.size < V.heap.size:=(by rw [←hWV];first|assumption|(simp;done)|(simp;omega))
   have zV_1:w.heap.size+1 < V.heap.size:=(by rw [←hWV];first|assumption|(simp;done)|(simp;omega))
   have zV_2:w.heap.size+1+1 < V.heap.size:=(by rw [←hWV];first|assumption|(simp;done)|(simp;omega))
   have zV_3:w5.heap.size < V.heap.size:=(by rw [←hWV];first|assumption|(simp;done)|(simp;omega))
   have bV:Below w.heap.size w V:=(by rw [←hWV];exact (by with_reducible repeat first|exact bR|assumption|apply bA|apply bD|apply bN|refine bC ?_ (by go_size)|refine bS ?_ ‹_›))
   simp only [hWV]
   have bWV:Below W.heap.size W V:=(by rw [←hWV];exact (by with_reducible repeat first|exact bR|assumption|apply bA|apply bD|apply bN|refine bC ?_ (by go_size)|refine bS ?_ ‹_›))
   rw [hWV] at e5
   obtain ⟨b5,hb5'⟩:∃b,w5.heap.size=b:=⟨_,rfl⟩
   rw [hb5'] at cV_8 cV_9 zV_3 ⊢
   clear hWV hb5' hc5 hf5 hb5 hr5 z5_0 z5_1 z5_2 cW_0 cW_1 cW_2 cW_3 cW_4 cW_5 cW_6 cW_7 fW_0 zW_0 zW_1 zW_2 bW
   refine ja4 (fun w'=>Below V.heap.size V w') [7] (by kernel_rfl) ?_
   refine tb 0 (.agg #[.int .i64 s3, .slice A3 n3 c3]) [2] rfl (by kernel_rfl) (fun _ _ _ h=>h) (by rfl) (fun _ hcS hfS=>by go_simp) (by with_reducible repeat first|exact bR|assumption|apply bA|apply bD|apply bN|refine bC ?_ (by go_size)|refine bS ?_ ‹_›) ?_
   simp only [Act.put,pA,pB,pC,pD,pE,pF]
   refine tb 1 (.agg #[.int .i64 s5, .slice A5 n5 c5]) [2] rfl (by kernel_rfl) (fun _ _ _ h=>h) (by rfl) (fun _ hcS hfS=>by go_simp) (by with_reducible repeat first|exact bR|assumption|apply bA|apply bD|apply bN|refine bC ?_ (by go_size)|refine bS ?_ ‹_›) ?_
   simp only [Act.put,pA,pB,pC,pD,pE,pF]
   refine tb 3 (.agg #[.int .i64 s4, .slice none n4 c4]) [5] rfl (by kernel_rfl) (fun _ _ _ h=>h) (by rfl) (fun _ hcS hfS=>by go_simp) (by with_reducible repeat first|exact bR|assumption|apply bA|apply bD|apply bN|refine bC ?_ (by go_size)|refine bS ?_ ‹_›) ?_
   simp only [Act.put,pA,pB,pC,pD,pE,pF]
   refine tb 4 (.agg #[.int .i64 s5, .slice A5 n5 c5]) [5] rfl (by kernel_rfl) (fun _ _ _ h=>h) (by rfl) (fun _ hcS hfS=>by go_simp) (by with_reducible repeat first|exact bR|assumption|apply bA|apply bD|apply bN|refine bC ?_ (by go_size)|refine bS ?_ ‹_›) ?_
   simp only [Act.put,pA,pB,pC,pD,pE,pF]
   refine rd1 2 (by kernel_rfl) rfl (fun K hK=> ?_)
   go_simp
   go_wp2_with (go_at_call 101;((with_reducible refine (jbH HE1.out (HRA.out _ (by with_reducible repeat first|exact bR|assumption|apply bA|apply bD|apply bN|refine bC ?_ (by go_size)|refine bS ?_ ‹_›)) (by with_reducible repeat first|assumption|apply rD|apply rN|apply rA|refine rP ?_ rfl (by simp [go_sem,zV_0])|refine rB ?_ ‹_›) HL1.out HGL.out HGP.out).mono ?_);rintro e6 w6 ⟨s6,A6,n6,c6,rfl,hr6,hb6⟩);obtain ⟨hc6,hf6⟩:=ja0 hb6;(try simp only [dw] at hc6 hf6);have z6_0:w.heap.size < w6.heap.size:=(by have:=hb6.size;(try simp at this);omega);have z6_1:w.heap.size+1 < w6.heap.size:=(by have:=hb6.size;(try simp at this);omega);have z6_2:w.heap.size+1+1 < w6.heap.size:=(by have:=hb6.size;(try simp at this);omega))
   refine hK.out _ _ (fun _=>(by with_reducible repeat first|exact bR|assumption|apply bA|apply bD|apply bN|refine bC ?_ (by go_size)|refine bS ?_ ‹_›)) ?_
   clear hK K
   refine rd1 5 (by kernel_rfl) rfl (fun K hK=> ?_)
   go_simp
   go_wp2_with (go_at_call 101;((with_reducible refine (jbH HE2.out (HRB.out _ (by with_reducible repeat first|exact bR|assumption|apply bA|apply bD|apply bN|refine bC ?_ (by go_size)|refine bS ?_ ‹_›)) (by with_reducible repeat first|assumption|apply rD|apply rN|apply rA|refine rP ?_ rfl (by simp [go_sem,zV_0])|refine rB ?_ ‹_›) HL2.out HGL.out HGP.out).mono ?_);rintro e7 w7 ⟨s7,A7,n7,c7,rfl,hr7,hb7⟩);obtain ⟨hc7,hf7⟩:=ja0 hb7;(try simp only [dw] at hc7 hf7);have z7_0:w.heap.size < w7.heap.size:=(by have:=hb7.size;(try simp at this);omega);have z7_1:w.heap.size+1 < w7.heap.size:=(by have:=hb7.size;(try simp at this);omega);have z7_2:w.heap.size+1+1 < w7.heap.size:=(by have:=hb7.size;(try simp at this);omega))
   refine hK.out _ _ (fun _=>(by with_reducible repeat first|exact bR|assumption|apply bA|apply bD|apply bN|refine bC ?_ (by go_size)|refine bS ?_ ‹_›)) ?_
   clear hK K
   refine rd1 6 (by kernel_rfl) rfl (fun K hK=> ?_)
   go_simp
   refine hK.out _ _ (fun _=>(by with_reducible repeat first|exact bR|assumption|apply bA|apply bD|apply bN|refine bC ?_ (by go_size)|refine bS ?_ ‹_›)) ?_
   clear hK K
   refine rd1 7 (by kernel_rfl) rfl (fun K hK=> ?_)
   go_simp
   refine hK.out _ _ (fun h=>(h (by decide)).elim) ?_
   clear hK K
   refine ja2 (by kernel_rfl) ?_ _
   go_wp2
   exact bodyPost_ret (v:= .agg #[.int .i64 (s6), .slice (A6) (n6) (c6), .int .i64 (s7), .slice (A7) (n7) (c7)]) (by simp [results,Tryz.results46,go_sem,hc7,z6_2,hc6,zV_2,cV_4,cV_5,cV_6,cV_7]) rfl (jao rfl ⟨(by with_reducible repeat first|assumption|apply rD|apply rN|apply rA|refine rP ?_ rfl (by simp [go_sem,hc7,z6_2,hc6,zV_2,cV_4,cV_5,cV_6,cV_7])|refine rB ?_ ‹_›),(by with_reducible repeat first|assumption|apply rD|apply rN|apply rA|refine rP ?_ rfl (by simp [go_sem,hc7,z6_2,hc6,zV_2,cV_4,cV_5,cV_6,cV_7])|refine rB ?_ ‹_›)⟩ (by with_reducible repeat first|exact bR|assumption|apply bA|apply bD|apply bN|refine bC ?_ (by go_size)|refine bS ?_ ‹_›))
  ·go_wp2_with (go_at_call 76;((with_reducible refine (jde HG.out (HRA.out _ (by with_reducible repeat first|exact bR|assumption|apply bA|apply bD|apply bN|refine bC ?_ (by go_size)|refine bS ?_ ‹_›)) (HRB.out _ (by with_reducible repeat first|exact bR|assumption|apply bA|apply bD|apply bN|refine bC ?_ (by go_size)|refine bS ?_ ‹_›)) HL1.out HL2.out).mono ?_);rintro e5 w5 ⟨s5,A5,n5,c5,rfl,hr5,hb5⟩);obtain ⟨hc5,hf5⟩:=ja0 hb5;(try simp only [dw] at hc5 hf5);have z5_0:w.heap.size < w5.heap.size:=(by have:=hb5.size;(try simp at this);omega);have z5_1:w.heap.size+1 < w5.heap.size:=(by have:=hb5.size;(try simp at this);omega);have z5_2:w.heap.size+1+1 < w5.heap.size:=(by have:=hb5.size;(try simp at this);omega))
   have e5:Rep (w5.alloc (.cells #[.int .i64 s5, .slice A5 n5 c5] 67)) s5 A5 n5 c5 (g:Nat):=(by with_reducible repeat first|assumption|apply rD|apply rN|apply rA|refine rP ?_ rfl (by simp [go_sem,hc5])|refine rB ?_ ‹_›)
   obtain ⟨V,hWV⟩:∃x,w5.alloc (.cells #[.int .i64 s5, .slice A5 n5 c5] 67)=x:=⟨_,rfl⟩
   have cV_0:V.cell? ⟨w.heap.size,0,none⟩=some (.int .i64 s3):=(by rw [←hWV];simp [go_sem,hc5,zW_0,zW_1,zW_2,cW_0,cW_1,cW_2,cW_3,cW_4,cW_5,cW_6,cW_7,z5_0,z5_1,z5_2,nl z5_0,nl z5_1,nl z5_2])
   have cV_1:V.cell? ⟨w.heap.size,1,none⟩=some (.slice A3 n3 c3):=(by rw [←hWV];simp [go_sem,hc5,zW_0,zW_1,zW_2,cW_0,cW_1,cW_2,cW_3,cW_4,cW_5,cW_6,cW_7,z5_0,z5_1,z5_2,nl z5_0,nl z5_1,nl z5_2])
   have cV_2:V.cell? ⟨w.heap.size+1,0,none⟩=some (.int .i64 s4):=(by rw [←hWV];simp [go_sem,hc5,zW_0,zW_1,zW_2,cW_0,cW_1,cW_2,cW_3,cW_4,cW_5,cW_6,cW_7,z5_0,z5_1,z5_2,nl z5_0,nl z5_1,nl z5_2])
   have cV_3:V.cell? ⟨w.heap.size+1,1,none⟩=some (.slice (some q) n4 c4):=(by rw [←hWV];simp [go_sem,hc5,zW_0,zW_1,zW_2,cW_0,cW_1,cW_2,cW_3,cW_4,cW_5,cW_6,cW_7,z5_0,z5_1,z5_2,nl z5_0,nl z5_1,nl z5_2])
   have cV_4:V.cell? ⟨w.heap.size+1+1,0,none⟩=some (.int .i64 0):=(by rw [←hWV];simp [go_sem,hc5,zW_0,zW_1,zW_2,cW_0,cW_1,cW_2,cW_3,cW_4,cW_5,cW_6,cW_7,z5_0,z5_1,z5_2,nl z5_0,nl z5_1,nl z5_2])
   have cV_5:V.cell? ⟨w.heap.size+1+1,1,none⟩=some (.slice none 0 0):=(by rw [←hWV];simp [go_sem,hc5,zW_0,zW_1,zW_2,cW_0,cW_1,cW_2,cW_3,cW_4,cW_5,cW_6,cW_7,z5_0,z5_1,z5_2,nl z5_0,nl z5_1,nl z5_2])
   have cV_6:V.cell? ⟨w.heap.size+1+1,2,none⟩=some (.int .i64 0):=(by rw [←hWV];simp [go_sem,hc5,zW_0,zW_1,zW_2,cW_0,cW_1,cW_2,cW_3,cW_4,cW_5,cW_6,cW_7,z5_0,z5_1,z5_2,nl z5_0,nl z5_1,nl z5_2])
   have cV_7:V.cell? ⟨w.heap.size+1+1,3,none⟩=some (.slice none 0 0):=(by rw [←hWV];simp [go_sem,hc5,zW_0,zW_1,zW_2,cW_0,cW_1,cW_2,cW_3,cW_4,cW_5,cW_6,cW_7,z5_0,z5_1,z5_2,nl z5_0,nl z5_1,nl z5_2])
   have cV_8:V.cell? ⟨w5.heap.size,0,none⟩=some (.int .i64 s5):=(by rw [←hWV];simp [go_sem,hc5,zW_0,zW_1,zW_2,cW_0,cW_1,cW_2,cW_3,cW_4,cW_5,cW_6,cW_7,z5_0,z5_1,z5_2,nl z5_0,nl z5_1,nl z5_2])
   have cV_9:V.cell? ⟨w5.heap.size,1,none⟩=some (.slice A5 n5 c5):=(by rw [←hWV];simp [go_sem,hc5,zW_0,zW_1,zW_2,cW_0,cW_1,cW_2,cW_3,cW_4,cW_5,cW_6,cW_7,z5_0,z5_1,z5_2,nl z5_0,nl z5_1,nl z5_2])
   have fV_0:∀o,V.frozen? ⟨w.heap.size+1+1,o,none⟩=false:=(by intro o;rw [←hWV];simp [go_sem,hf5,fW_0,zW_2,z5_2,nl z5_2])
   have zV_0:w.heap.size < V.heap.size:=(by rw [←hWV];first|assumption|(simp;done)|(simp;omega))
   have zV_1:w.heap.size+1 < V.heap.size:=(by rw [←hWV];first|assumption|(simp;done)|(simp;omega))
   have zV_2:w.heap.size+1+1 < V.heap.size:=(by rw [←hWV];first|assumption|(simp;done)|(simp;omega))
   have zV_3:w5.heap.size < V.heap.size:=(by rw [←hWV];first|assumption|(simp;done)|(simp;omega))
   have bV:Below w.heap.size w V:=(by rw [←hWV];exact (by with_reducible repeat first|exact bR|assumption|apply bA|apply bD|apply bN|refine bC ?_ (by go_size)|refine bS ?_ ‹_›))
   simp only [hWV]
   have bWV:Below W.heap.size W V:=(by rw [←hWV];exact (by with_reducible repeat first|exact bR|assumption|apply bA|apply bD|apply bN|refine bC ?_ (by go_size)|refine bS ?_ ‹_›))
   rw [hWV] at e5
   obtain ⟨b5,hb5'⟩:∃b,w5.heap.size=b:=⟨_,rfl⟩
   rw [hb5'] at cV_8 cV_9 zV_3 ⊢
   clear hWV hb5' hc5 hf5 hb5 hr5 z5_0 z5_1 z5_2 cW_0 cW_1 cW_2 cW_3 cW_4 cW_5 cW_6 cW_7 fW_0 zW_0 zW_1 zW_2 bW
   refine ja4 (fun w'=>Below V.heap.size V w') [7] (by kernel_rfl) ?_
   refine tb 0 (.agg #[.int .i64 s3, .slice A3 n3 c3]) [2] rfl (by kernel_rfl) (fun _ _ _ h=>h) (by rfl) (fun _ hcS hfS=>by go_simp) (by with_reducible repeat first|exact bR|assumption|apply bA|apply bD|apply bN|refine bC ?_ (by go_size)|refine bS ?_ ‹_›) ?_
   simp only [Act.put,pA,pB,pC,pD,pE,pF]
   refine tb 1 (.agg #[.int .i64 s5, .slice A5 n5 c5]) [2] rfl (by kernel_rfl) (fun _ _ _ h=>h) (by rfl) (fun _ hcS hfS=>by go_simp) (by with_reducible repeat first|exact bR|assumption|apply bA|apply bD|apply bN|refine bC ?_ (by go_size)|refine bS ?_ ‹_›) ?_
   simp only [Act.put,pA,pB,pC,pD,pE,pF]
   refine tb 3 (.agg #[.int .i64 s4, .slice (some q) n4 c4]) [5] rfl (by kernel_rfl) (fun _ _ _ h=>h) (by rfl) (fun _ hcS hfS=>by go_simp) (by with_reducible repeat first|exact bR|assumption|apply bA|apply bD|apply bN|refine bC ?_ (by go_size)|refine bS ?_ ‹_›) ?_
   simp only [Act.put,pA,pB,pC,pD,pE,pF]
   refine tb 4 (.agg #[.int .i64 s5, .slice A5 n5 c5]) [5] rfl (by kernel_rfl) (fun _ _ _ h=>h) (by rfl) (fun _ hcS hfS=>by go_simp) (by with_reducible repeat first|exact bR|assumption|apply bA|apply bD|apply bN|refine bC ?_ (by go_size)|refine bS ?_ ‹_›) ?_
   simp only [Act.put,pA,pB,pC,pD,pE,pF]
   refine rd1 2 (by kernel_rfl) rfl (fun K hK=> ?_)
   go_simp
   go_wp2_with (go_at_call 101;((with_reducible refine (jbH HE1.out (HRA.out _ (by with_reducible repeat first|exact bR|assumption|apply bA|apply bD|apply bN|refine bC ?_ (by go_size)|refine bS ?_ ‹_›)) (by with_reducible repeat first|assumption|apply rD|apply rN|apply rA|refine rP ?_ rfl (by simp [go_sem,zV_0])|refine rB ?_ ‹_›) HL1.out HGL.out HGP.out).mono ?_);rintro e6 w6 ⟨s6,A6,n6,c6,rfl,hr6,hb6⟩);obtain ⟨hc6,hf6⟩:=ja0 hb6;(try simp only [dw] at hc6 hf6);have z6_0:w.heap.size < w6.heap.size:=(by have:=hb6.size;(try simp at this);omega);have z6_1:w.heap.size+1 < w6.heap.size:=(by have:=hb6.size;(try simp at this);omega);have z6_2:w.heap.size+1+1 < w6.heap.size:=(by have:=hb6.size;(try simp at this);omega))
   refine hK.out _ _ (fun _=>(by with_reducible repeat first|exact bR|assumption|apply bA|apply bD|apply bN|refine bC ?_ (by go_size)|refine bS ?_ ‹_›)) ?_
   clear hK K
   refine rd1 5 (by kernel_rfl) rfl (fun K hK=> ?_)
   go_simp
   go_wp2_with (go_at_call 101;((with_reducible refine (jbH HE2.out (HRB.out _ (by with_reducible repeat first|exact bR|assumption|apply bA|apply bD|apply bN|refine bC ?_ (by go_size)|refine bS ?_ ‹_›)) (by with_reducible repeat first|assumption|apply rD|apply rN|apply rA|refine rP ?_ rfl (by simp [go_sem,zV_0])|refine rB ?_ ‹_›) HL2.out HGL.out HGP.out).mono ?_);rintro e7 w7 ⟨s7,A7,n7,c7,rfl,hr7,hb7⟩);obtain ⟨hc7,hf7⟩:=ja0 hb7;(try simp only [dw] at hc7 hf7);have z7_0:w.heap.size < w7.heap.size:=(by have:=hb7.size;(try simp at this);omega);have z7_1:w.heap.size+1 < w7.heap.size:=(by have:=hb7.size;(try simp at this);omega);have z7_2:w.heap.size+1+1 < w7.heap.size:=(by have:=hb7.size;(try simp at this);omega))
   refine hK.out _ _ (fun _=>(by with_reducible repeat first|exact bR|assumption|apply bA|apply bD|apply bN|refine bC ?_ (by go_size)|refine bS ?_ ‹_›)) ?_
   clear hK K
   refine rd1 6 (by kernel_rfl) rfl (fun K hK=> ?_)
   go_simp
   refine hK.out _ _ (fun _=>(by with_reducible repeat first|exact bR|assumption|apply bA|apply bD|apply bN|refine bC ?_ (by go_size)|refine bS ?_ ‹_›)) ?_
   clear hK K
   refine rd1 7 (by kernel_rfl) rfl (fun K hK=> ?_)
   go_simp
   refine hK.out _ _ (fun h=>(h (by decide)).elim) ?_
   clear hK K
   refine ja2 (by kernel_rfl) ?_ _
   go_wp2
   exact bodyPost_ret (v:= .agg #[.int .i64 (s6), .slice (A6) (n6) (c6), .int .i64 (s7), .slice (A7) (n7) (c7)]) (by simp [results,Tryz.results46,go_sem,hc7,z6_2,hc6,zV_2,cV_4,cV_5,cV_6,cV_7]) rfl (jao rfl ⟨(by with_reducible repeat first|assumption|apply rD|apply rN|apply rA|refine rP ?_ rfl (by simp [go_sem,hc7,z6_2,hc6,zV_2,cV_4,cV_5,cV_6,cV_7])|refine rB ?_ ‹_›),(by with_reducible repeat first|assumption|apply rD|apply rN|apply rA|refine rP ?_ rfl (by simp [go_sem,hc7,z6_2,hc6,zV_2,cV_4,cV_5,cV_6,cV_7])|refine rB ?_ ‹_›)⟩ (by with_reducible repeat first|exact bR|assumption|apply bA|apply bD|apply bN|refine bC ?_ (by go_size)|refine bS ?_ ‹_›))
theorem jmk (h:Rep w s A n c a) (h':Rep w t B m d b) (hl:Lim a) (hl':Lim b) (hp:b≠0):Calls Tryz.prog 46 #[iv s A n c,iv t B m d] w (jae (Rat.divInt a b) w):=by
 rcases Int.lt_or_le b 0 with h1|h1
 ·have:=jmH h h' hl hl' h1 rfl rfl
  rw [Rat.neg_divInt_neg] at this
  exact this
 ·exact jnf h h' hl hl' (by omega)
end
end Go.Proofs.YthciialjockjmaaGreatDoor
