/- Parts. -/
import Derived.Test.YthciialjockjmaaGreatDoorIhG
set_option linter.all false
set_option maxRecDepth 100000
set_option maxHeartbeats 8000000
namespace Go.Proofs.YthciialjockjmaaGreatDoor
open Go Go.RowKit

theorem jde {s t a b:Int} {g:Nat} {A B:Option Addr} {n c m d:Nat} {w:World} (hg:Nat.gcd a.natAbs b.natAbs=g) (h:Rep w s A n c a) (h':Rep w t B m d b) (hl:Lim a) (hl':Lim b):
  Calls Tryz.prog 76 #[iv s A n c,iv t B m d] w (jaa ((g:Nat):Int) w):=hg ▸ joQ h h' hl hl'
theorem jbH {s t a b q:Int} {A B:Option Addr} {n c m d:Nat} {w:World} (hq:a.fdiv b=q) (h:Rep w s A n c a) (h':Rep w t B m d b) (hl:Lim a) (hl':Lim b) (hp:b≠0):
  Calls Tryz.prog 101 #[iv s A n c,iv t B m d] w (jaa q w):=hq ▸ joC h h' hl hl' hp
theorem jfB {a b:Int} (h:Lim b) (e:a.natAbs≤b.natAbs):Lim a:=⟨Nat.lt_of_le_of_lt e h.lt⟩
section
variable {s a t b:Int} {A B:Option Addr} {n c m d:Nat} {w:World}
theorem jmw (h:Rep w s A n c a):Calls Tryz.prog 46 #[iv s A n c,iv 1 none 0 0] w (jae (Rat.divInt a 1) w):=by
 have qe:=jaq
 have h':Rep w 1 none 0 0 1:= .small _ (by omega) (by omega)
 have HR1:=qh (show ∀W,Below w.heap.size w W→Rep W s A n c (Rat.divInt a 1).num from fun W hb=>(h.below hb).to (Rq.num_one a).symm)
 have HR2:=qh (show ∀W,Below w.heap.size w W→Rep W 1 none 0 0 1 from fun W hb=>h'.below hb)
 have HR3:=qh (show ∀W,Below w.heap.size w W→Rep W 1 none 0 0 (((Rat.divInt a 1).den:Nat):Int) from fun W hb=>(h'.below hb).to (by rw [Rq.den_one];rfl))
 have HS:=qh (show sgn 1=1 from rfl)
 clear h h'
 go_enter Tryz.func46,Tryz.ntmps46
 go_wp2_with (first
  | (go_at_call 45;(with_reducible refine (jaI HS.out (HR2.out _ (bq (by with_reducible repeat' first|assumption|constructor|go_size)))).mono ?_);rintro e1 w1 ⟨rfl,hb1⟩;obtain ⟨hc1,hf1,z1_0,z1_1,z1_2⟩:=bc3 w hb1 (by go_size);(try simp only [dw] at hc1 hf1)))
 exact bodyPost_ret (v:= .agg #[.int .i64 (s), .slice (A) (n) (c), .int .i64 (1), .slice (none) (0) (0)]) (by simp [results,Tryz.results46,go_sem,hc1,z1_0,z1_1,z1_2]) rfl (jao rfl ⟨(HR1.out _ (bq (by with_reducible repeat' first|assumption|constructor|go_size))),(HR3.out _ (bq (by with_reducible repeat' first|assumption|constructor|go_size)))⟩ (bq (by with_reducible repeat' first|assumption|constructor|go_size)))

theorem jiV {q:Addr} (h:Rep w s A n c a) (h':Rep w t (some q) m d b) (hl:Lim a) (hl':Lim b) (hp:1 < b):Calls Tryz.prog 46 #[iv s A n c,iv t (some q) m d] w (jae (Rat.divInt a b) w):=by
 have qe:=jaq
 have HR1:=qh (show ∀W,Below w.heap.size w W→Rep W s A n c a from fun W hb=>h.below hb)
 have HS:=qh (show sgn b=1 by unfold sgn;rw [if_neg (by omega),if_pos (by omega)])
 obtain ⟨g,hg⟩:∃g,Nat.gcd a.natAbs b.natAbs=g:=⟨_,rfl⟩
 have hgp:=Rq.gcd_pos a (b:=b) (by omega)
 have hgl:=Rq.gcd_le a (b:=b) (by omega)
 have e1:=Rq.num_pos (a:=a) (b:=b) (by omega)
 have e2:=Rq.den_pos (a:=a) (b:=b) (by omega)
 rw [hg] at hgp hgl e1 e2
 obtain ⟨x,hx⟩:∃x,Rat.divInt a b=x:=⟨_,rfl⟩
 rw [hx] at e1 e2 ⊢
 have HG:=qh hg
 have HGL:=qh (show Lim ((g:Nat):Int) from jfB hl' (by simpa using hgl))
 have HGP:=qh (show ((g:Nat):Int)≠0 by omega)
 have HE1:=qh e1
 have HE2:=qh e2
 have HL1:=qh hl
 have HL2:=qh hl'
 have HR2:=qh (show ∀W,Below w.heap.size w W→Rep W t (some q) m d b from fun W hb=>h'.below hb)
 clear h h' hl hl' hp hg hgp hgl e1 e2 hx
 go_enter Tryz.func46,Tryz.ntmps46
 go_wp2_with (first
  | (go_at_call 45;(with_reducible refine (jaI HS.out (HR2.out _ (bq (by with_reducible repeat' first|assumption|constructor|go_size)))).mono ?_);rintro e1 w1 ⟨rfl,hb1⟩;obtain ⟨hc1,hf1,z1_0,z1_1,z1_2⟩:=bc3 w hb1 (by go_size);(try simp only [dw] at hc1 hf1))
  | (go_at_call 76;(with_reducible refine (jde HG.out (HR1.out _ (bq (by with_reducible repeat' first|assumption|constructor|go_size))) (HR2.out _ (bq (by with_reducible repeat' first|assumption|constructor|go_size))) HL1.out HL2.out).mono ?_);rintro e2 w2 ⟨s2,A2,n2,c2,rfl,hr2,hb2⟩;obtain ⟨hc2,hf2,z2_0,z2_1,z2_2⟩:=bc3 w hb2 (by go_size);(try simp only [dw] at hc2 hf2)))
 have e3:Rep (w2.alloc (.cells #[.int .i64 s2, .slice A2 n2 c2] 67)) s2 A2 n2 c2 (g:Nat):=(by with_reducible repeat first|assumption|apply rD|apply rN|apply rA|refine rP ?_ rfl (by simp [go_sem,hc2])|refine rB ?_ ‹_›)
 obtain ⟨W,hWW⟩:∃x,w2.alloc (.cells #[.int .i64 s2, .slice A2 n2 c2] 67)=x:=⟨_,rfl⟩
 have cW_0:W.cell? ⟨w.heap.size,0,none⟩=some (.int .i64 s):=(by rw [←hWW];simp [go_sem,hc2,hc1,z2_0,z2_1,z2_2,z1_0,z1_1,z1_2,nl z2_0,nl z2_1,nl z2_2])
 have cW_1:W.cell? ⟨w.heap.size,1,none⟩=some (.slice A n c):=(by rw [←hWW];simp [go_sem,hc2,hc1,z2_0,z2_1,z2_2,z1_0,z1_1,z1_2,nl z2_0,nl z2_1,nl z2_2])
 have cW_2:W.cell? ⟨w.heap.size+1,0,none⟩=some (.int .i64 t):=(by rw [←hWW];simp [go_sem,hc2,hc1,z2_0,z2_1,z2_2,z1_0,z1_1,z1_2,nl z2_0,nl z2_1,nl z2_2])
 have cW_3:W.cell? ⟨w.heap.size+1,1,none⟩=some (.slice (some q) m d):=(by rw [←hWW];simp [go_sem,hc2,hc1,z2_0,z2_1,z2_2,z1_0,z1_1,z1_2,nl z2_0,nl z2_1,nl z2_2])
 have cW_4:W.cell? ⟨w.heap.size+1+1,0,none⟩=some (.int .i64 0):=(by rw [←hWW];simp [go_sem,hc2,hc1,z2_0,z2_1,z2_2,z1_0,z1_1,z1_2,nl z2_0,nl z2_1,nl z2_2])
 have cW_5:W.cell? ⟨w.heap.size+1+1,1,none⟩=some (.slice none 0 0):=(by rw [←hWW];simp [go_sem,hc2,hc1,z2_0,z2_1,z2_2,z1_0,z1_1,z1_2,nl z2_0,nl z2_1,nl z2_2])
 have cW_6:W.cell? ⟨w.heap.size+1+1,2,none⟩=some (.int .i64 0):=(by rw [←hWW];simp [go_sem,hc2,hc1,z2_0,z2_1,z2_2,z1_0,z1_1,z1_2,nl z2_0,nl z2_1,nl z2_2])
 have cW_7:W.cell? ⟨w.heap.size+1+1,3,none⟩=some (.slice none 0 0):=(by rw [←hWW];simp [go_sem,hc2,hc1,z2_0,z2_1,z2_2,z1_0,z1_1,z1_2,nl z2_0,nl z2_1,nl z2_2])
 have cW_8:W.cell? ⟨w2.heap.size,0,none⟩=some (.int .i64 s2):=(by rw [←hWW];simp [go_sem,hc2,hc1,z2_0,z2_1,z2_2,z1_0,z1_1,z1_2,nl z2_0,nl z2_1,nl z2_2])
 have cW_9:W.cell? ⟨w2.heap.size,1,none⟩=some (.slice A2 n2 c2):=(by rw [←hWW];simp [go_sem,hc2,hc1,z2_0,z2_1,z2_2,z1_0,z1_1,z1_2,nl z2_0,nl z2_1,nl z2_2])
 have fW_0:∀o,W.frozen? ⟨w.heap.size+1+1,o,none⟩=false:=(by intro o;rw [←hWW];simp [go_sem,hf2,hf1,z2_2,z1_2,nl z2_2])
 have zW_0:w.heap.size < W.heap.size:=(by rw [←hWW];first|assumption|(simp;done)|(simp;omega))
 have zW_1:w.heap.size+1 < W.heap.size:=(by rw [←hWW];first|assumption|(simp;done)|(simp;omega))
 have zW_2:w.heap.size+1+1 < W.heap.size:=(by rw [←hWW];first|assumption|(simp;done)|(simp;omega))
 have zW_3:w2.heap.size < W.heap.size:=(by rw [←hWW];first|assumption|(simp;done)|(simp;omega))
 have bW:Below w.heap.size w W:=(by rw [←hWW];exact (bq (by with_reducible repeat' first|assumption|constructor|go_size)))
 simp only [hWW]
 rw [hWW] at e3
 obtain ⟨b5,hb5⟩:∃b,w2.heap.size=b:=⟨_,rfl⟩
 rw [hb5] at cW_8 cW_9 zW_3 ⊢
 clear hWW hb5 hc2 hc1 hf2 hf1 hb1 hb2 hr2 z1_0 z1_1 z1_2 z2_0 z2_1 z2_2
 refine ja4 (fun w'=>Below W.heap.size W w') [7] (by kernel_rfl) ?_
 refine tb 0 (.agg #[.int .i64 s, .slice A n c]) [2] rfl (by kernel_rfl) (fun _ _ _ h=>h) (by rfl) (by intros;go_simp) bq0 ?_
 simp only [ppq]
 refine tb 1 (.agg #[.int .i64 s2, .slice A2 n2 c2]) [2] rfl (by kernel_rfl) (fun _ _ _ h=>h) (by rfl) (by intros;go_simp) bq0 ?_
 simp only [ppq]
 refine tb 3 (.agg #[.int .i64 t, .slice (some q) m d]) [5] rfl (by kernel_rfl) (fun _ _ _ h=>h) (by rfl) (by intros;go_simp) bq0 ?_
 simp only [ppq]
 refine tb 4 (.agg #[.int .i64 s2, .slice A2 n2 c2]) [5] rfl (by kernel_rfl) (fun _ _ _ h=>h) (by rfl) (by intros;go_simp) bq0 ?_
 simp only [ppq]
 refine rd1 2 (by kernel_rfl) rfl (fun K hK=> ?_)
 go_simp
 go_wp2_with (go_at_call 101;(with_reducible refine (jbH HE1.out (HR1.out _ (bq (by with_reducible repeat' first|assumption|constructor|go_size))) (by with_reducible repeat first|assumption|apply rD|apply rN|apply rA|refine rP ?_ rfl (by simp [go_sem,zW_0])|refine rB ?_ ‹_›) HL1.out HGL.out HGP.out).mono ?_);rintro e3 w3 ⟨s3,A3,n3,c3,rfl,hr3,hb3⟩;obtain ⟨hc3,hf3,z3_0,z3_1,z3_2⟩:=bc3 w hb3 (by go_size);(try simp only [dw] at hc3 hf3))
 have sS3:=qh (bst bq0 hb3)
 refine hK.out _ _ (fun _=>sS3.out) ?_
 clear hK K
 refine rd1 5 (by kernel_rfl) rfl (fun K hK=> ?_)
 go_simp
 go_wp2_with (go_at_call 101;(with_reducible refine (jbH HE2.out (HR2.out _ (bq (by with_reducible repeat' first|assumption|constructor|go_size))) (by with_reducible repeat first|assumption|apply rD|apply rN|apply rA|refine rP ?_ rfl (by simp [go_sem,zW_0])|refine rB ?_ ‹_›) HL2.out HGL.out HGP.out).mono ?_);rintro e4 w4 ⟨s4,A4,n4,c4,rfl,hr4,hb4⟩;obtain ⟨hc4,hf4,z4_0,z4_1,z4_2⟩:=bc3 w hb4 (by go_size);(try simp only [dw] at hc4 hf4))
 have sS4:=qh (bst sS3.out hb4)
 refine hK.out _ _ (fun _=>sS4.out) ?_
 clear hK K
 refine rd1 6 (by kernel_rfl) rfl (fun K hK=> ?_)
 go_simp
 refine hK.out _ _ (fun _=>(bq (by with_reducible repeat' first|assumption|constructor|go_size))) ?_
 clear hK K
 refine rd1 7 (by kernel_rfl) rfl (fun K hK=> ?_)
 go_simp
 refine hK.out _ _ (fun h=>(h (by decide)).elim) ?_
 clear hK K
 refine ja2 (by kernel_rfl) ?_ _
 go_wp2
 exact bodyPost_ret (v:= .agg #[.int .i64 (s3), .slice (A3) (n3) (c3), .int .i64 (s4), .slice (A4) (n4) (c4)]) (by simp [results,Tryz.results46,go_sem,hc4,z3_2,hc3,zW_2,cW_4,cW_5,cW_6,cW_7]) rfl (jao rfl ⟨(by with_reducible repeat first|assumption|apply rD|apply rN|apply rA|refine rP ?_ rfl (by simp [go_sem,hc4,z3_2,hc3,zW_2,cW_4,cW_5,cW_6,cW_7])|refine rB ?_ ‹_›),(by with_reducible repeat first|assumption|apply rD|apply rN|apply rA|refine rP ?_ rfl (by simp [go_sem,hc4,z3_2,hc3,zW_2,cW_4,cW_5,cW_6,cW_7])|refine rB ?_ ‹_›)⟩ (bq (by with_reducible repeat' first|assumption|constructor|go_size)))
theorem jjb (h:Rep w s A n c a) (h':Rep w t none m d b) (hl:Lim a) (hl':Lim b) (hp:1 < b):Calls Tryz.prog 46 #[iv s A n c,iv t none m d] w (jae (Rat.divInt a b) w):=by
 have qe:=jaq
 have HR1:=qh (show ∀W,Below w.heap.size w W→Rep W s A n c a from fun W hb=>h.below hb)
 have HS:=qh (show sgn b=1 by unfold sgn;rw [if_neg (by omega),if_pos (by omega)])
 obtain ⟨g,hg⟩:∃g,Nat.gcd a.natAbs b.natAbs=g:=⟨_,rfl⟩
 have hgp:=Rq.gcd_pos a (b:=b) (by omega)
 have hgl:=Rq.gcd_le a (b:=b) (by omega)
 have e1:=Rq.num_pos (a:=a) (b:=b) (by omega)
 have e2:=Rq.den_pos (a:=a) (b:=b) (by omega)
 rw [hg] at hgp hgl e1 e2
 obtain ⟨x,hx⟩:∃x,Rat.divInt a b=x:=⟨_,rfl⟩
 rw [hx] at e1 e2 ⊢
 have HG:=qh hg
 have HGL:=qh (show Lim ((g:Nat):Int) from jfB hl' (by simpa using hgl))
 have HGP:=qh (show ((g:Nat):Int)≠0 by omega)
 have HE1:=qh e1
 have HE2:=qh e2
 have HL1:=qh hl
 have HL2:=qh hl'
 have qt:(t==1)=false:=by rw [beq_eq_false_iff_ne];have:=h'.none_.1;omega
 have HR2:=qh (show ∀W,Below w.heap.size w W→Rep W t none m d b from fun W hb=>h'.below hb)
 clear h h' hl hl' hp hg hgp hgl e1 e2 hx
 go_enter Tryz.func46,Tryz.ntmps46
 go_wp2_with (first
  | (go_at_call 45;(with_reducible refine (jaI HS.out (HR2.out _ (bq (by with_reducible repeat' first|assumption|constructor|go_size)))).mono ?_);rintro e1 w1 ⟨rfl,hb1⟩;obtain ⟨hc1,hf1,z1_0,z1_1,z1_2⟩:=bc3 w hb1 (by go_size);(try simp only [dw] at hc1 hf1))
  | (go_at_call 76;(with_reducible refine (jde HG.out (HR1.out _ (bq (by with_reducible repeat' first|assumption|constructor|go_size))) (HR2.out _ (bq (by with_reducible repeat' first|assumption|constructor|go_size))) HL1.out HL2.out).mono ?_);rintro e2 w2 ⟨s2,A2,n2,c2,rfl,hr2,hb2⟩;obtain ⟨hc2,hf2,z2_0,z2_1,z2_2⟩:=bc3 w hb2 (by go_size);(try simp only [dw] at hc2 hf2)))
 have e3:Rep (w2.alloc (.cells #[.int .i64 s2, .slice A2 n2 c2] 67)) s2 A2 n2 c2 (g:Nat):=(by with_reducible repeat first|assumption|apply rD|apply rN|apply rA|refine rP ?_ rfl (by simp [go_sem,hc2])|refine rB ?_ ‹_›)
 obtain ⟨W,hWW⟩:∃x,w2.alloc (.cells #[.int .i64 s2, .slice A2 n2 c2] 67)=x:=⟨_,rfl⟩
 have cW_0:W.cell? ⟨w.heap.size,0,none⟩=some (.int .i64 s):=(by rw [←hWW];simp [go_sem,hc2,hc1,z2_0,z2_1,z2_2,z1_0,z1_1,z1_2,nl z2_0,nl z2_1,nl z2_2])
 have cW_1:W.cell? ⟨w.heap.size,1,none⟩=some (.slice A n c):=(by rw [←hWW];simp [go_sem,hc2,hc1,z2_0,z2_1,z2_2,z1_0,z1_1,z1_2,nl z2_0,nl z2_1,nl z2_2])
 have cW_2:W.cell? ⟨w.heap.size+1,0,none⟩=some (.int .i64 t):=(by rw [←hWW];simp [go_sem,hc2,hc1,z2_0,z2_1,z2_2,z1_0,z1_1,z1_2,nl z2_0,nl z2_1,nl z2_2])
 have cW_3:W.cell? ⟨w.heap.size+1,1,none⟩=some (.slice none m d):=(by rw [←hWW];simp [go_sem,hc2,hc1,z2_0,z2_1,z2_2,z1_0,z1_1,z1_2,nl z2_0,nl z2_1,nl z2_2])
 have cW_4:W.cell? ⟨w.heap.size+1+1,0,none⟩=some (.int .i64 0):=(by rw [←hWW];simp [go_sem,hc2,hc1,z2_0,z2_1,z2_2,z1_0,z1_1,z1_2,nl z2_0,nl z2_1,nl z2_2])
 have cW_5:W.cell? ⟨w.heap.size+1+1,1,none⟩=some (.slice none 0 0):=(by rw [←hWW];simp [go_sem,hc2,hc1,z2_0,z2_1,z2_2,z1_0,z1_1,z1_2,nl z2_0,nl z2_1,nl z2_2])
 have cW_6:W.cell? ⟨w.heap.size+1+1,2,none⟩=some (.int .i64 0):=(by rw [←hWW];simp [go_sem,hc2,hc1,z2_0,z2_1,z2_2,z1_0,z1_1,z1_2,nl z2_0,nl z2_1,nl z2_2])
 have cW_7:W.cell? ⟨w.heap.size+1+1,3,none⟩=some (.slice none 0 0):=(by rw [←hWW];simp [go_sem,hc2,hc1,z2_0,z2_1,z2_2,z1_0,z1_1,z1_2,nl z2_0,nl z2_1,nl z2_2])
 have cW_8:W.cell? ⟨w2.heap.size,0,none⟩=some (.int .i64 s2):=(by rw [←hWW];simp [go_sem,hc2,hc1,z2_0,z2_1,z2_2,z1_0,z1_1,z1_2,nl z2_0,nl z2_1,nl z2_2])
 have cW_9:W.cell? ⟨w2.heap.size,1,none⟩=some (.slice A2 n2 c2):=(by rw [←hWW];simp [go_sem,hc2,hc1,z2_0,z2_1,z2_2,z1_0,z1_1,z1_2,nl z2_0,nl z2_1,nl z2_2])
 have fW_0:∀o,W.frozen? ⟨w.heap.size+1+1,o,none⟩=false:=(by intro o;rw [←hWW];simp [go_sem,hf2,hf1,z2_2,z1_2,nl z2_2])
 have zW_0:w.heap.size < W.heap.size:=(by rw [←hWW];first|assumption|(simp;done)|(simp;omega))
 have zW_1:w.heap.size+1 < W.heap.size:=(by rw [←hWW];first|assumption|(simp;done)|(simp;omega))
 have zW_2:w.heap.size+1+1 < W.heap.size:=(by rw [←hWW];first|assumption|(simp;done)|(simp;omega))
 have zW_3:w2.heap.size < W.heap.size:=(by rw [←hWW];first|assumption|(simp;done)|(simp;omega))
 have bW:Below w.heap.size w W:=(by rw [←hWW];exact (bq (by with_reducible repeat' first|assumption|constructor|go_size)))
 simp only [hWW]
 rw [hWW] at e3
 obtain ⟨b5,hb5⟩:∃b,w2.heap.size=b:=⟨_,rfl⟩
 rw [hb5] at cW_8 cW_9 zW_3 ⊢
 clear hWW hb5 hc2 hc1 hf2 hf1 hb1 hb2 hr2 z1_0 z1_1 z1_2 z2_0 z2_1 z2_2
 refine ja4 (fun w'=>Below W.heap.size W w') [7] (by kernel_rfl) ?_
 refine tb 0 (.agg #[.int .i64 s, .slice A n c]) [2] rfl (by kernel_rfl) (fun _ _ _ h=>h) (by rfl) (by intros;go_simp) bq0 ?_
 simp only [ppq]
 refine tb 1 (.agg #[.int .i64 s2, .slice A2 n2 c2]) [2] rfl (by kernel_rfl) (fun _ _ _ h=>h) (by rfl) (by intros;go_simp) bq0 ?_
 simp only [ppq]
 refine tb 3 (.agg #[.int .i64 t, .slice none m d]) [5] rfl (by kernel_rfl) (fun _ _ _ h=>h) (by rfl) (by intros;go_simp) bq0 ?_
 simp only [ppq]
 refine tb 4 (.agg #[.int .i64 s2, .slice A2 n2 c2]) [5] rfl (by kernel_rfl) (fun _ _ _ h=>h) (by rfl) (by intros;go_simp) bq0 ?_
 simp only [ppq]
 refine rd1 2 (by kernel_rfl) rfl (fun K hK=> ?_)
 go_simp
 go_wp2_with (go_at_call 101;(with_reducible refine (jbH HE1.out (HR1.out _ (bq (by with_reducible repeat' first|assumption|constructor|go_size))) (by with_reducible repeat first|assumption|apply rD|apply rN|apply rA|refine rP ?_ rfl (by simp [go_sem,zW_0])|refine rB ?_ ‹_›) HL1.out HGL.out HGP.out).mono ?_);rintro e3 w3 ⟨s3,A3,n3,c3,rfl,hr3,hb3⟩;obtain ⟨hc3,hf3,z3_0,z3_1,z3_2⟩:=bc3 w hb3 (by go_size);(try simp only [dw] at hc3 hf3))
 have sS3:=qh (bst bq0 hb3)
 refine hK.out _ _ (fun _=>sS3.out) ?_
 clear hK K
 refine rd1 5 (by kernel_rfl) rfl (fun K hK=> ?_)
 go_simp
 go_wp2_with (go_at_call 101;(with_reducible refine (jbH HE2.out (HR2.out _ (bq (by with_reducible repeat' first|assumption|constructor|go_size))) (by with_reducible repeat first|assumption|apply rD|apply rN|apply rA|refine rP ?_ rfl (by simp [go_sem,zW_0])|refine rB ?_ ‹_›) HL2.out HGL.out HGP.out).mono ?_);rintro e4 w4 ⟨s4,A4,n4,c4,rfl,hr4,hb4⟩;obtain ⟨hc4,hf4,z4_0,z4_1,z4_2⟩:=bc3 w hb4 (by go_size);(try simp only [dw] at hc4 hf4))
 have sS4:=qh (bst sS3.out hb4)
 refine hK.out _ _ (fun _=>sS4.out) ?_
 clear hK K
 refine rd1 6 (by kernel_rfl) rfl (fun K hK=> ?_)
 go_simp
 refine hK.out _ _ (fun _=>(bq (by with_reducible repeat' first|assumption|constructor|go_size))) ?_
 clear hK K
 refine rd1 7 (by kernel_rfl) rfl (fun K hK=> ?_)
 go_simp
 refine hK.out _ _ (fun h=>(h (by decide)).elim) ?_
 clear hK K
 refine ja2 (by kernel_rfl) ?_ _
 go_wp2
 exact bodyPost_ret (v:= .agg #[.int .i64 (s3), .slice (A3) (n3) (c3), .int .i64 (s4), .slice (A4) (n4) (c4)]) (by simp [results,Tryz.results46,go_sem,hc4,z3_2,hc3,zW_2,cW_4,cW_5,cW_6,cW_7]) rfl (jao rfl ⟨(by with_reducible repeat first|assumption|apply rD|apply rN|apply rA|refine rP ?_ rfl (by simp [go_sem,hc4,z3_2,hc3,zW_2,cW_4,cW_5,cW_6,cW_7])|refine rB ?_ ‹_›),(by with_reducible repeat first|assumption|apply rD|apply rN|apply rA|refine rP ?_ rfl (by simp [go_sem,hc4,z3_2,hc3,zW_2,cW_4,cW_5,cW_6,cW_7])|refine rB ?_ ‹_›)⟩ (bq (by with_reducible repeat' first|assumption|constructor|go_size)))
theorem jnf (h:Rep w s A n c a) (h':Rep w t B m d b) (hl:Lim a) (hl':Lim b) (hp:0 < b):Calls Tryz.prog 46 #[iv s A n c,iv t B m d] w (jae (Rat.divInt a b) w):=by
 rcases B with _|q
 ·obtain ⟨rfl,rfl,rfl,_⟩:=h'.none_
  by_cases h1:t=1
  ·subst h1;exact jmw h
  ·exact jjb h h' hl hl' (by omega)
 ·have h2:=jio h'
  have h1:b≠1:=by intro e;rw [e] at h2;simp at h2
  exact jiV h h' hl hl' (by omega)
end
end Go.Proofs.YthciialjockjmaaGreatDoor
