/- Parts. -/
import Derived.Test.YtmaldbpmnneaaaaGreatDoorIhG
set_option linter.all false
set_option maxRecDepth 100000
set_option maxHeartbeats 8000000
namespace Go.Proofs.YtmaldbpmnneaaaaGreatDoor
open Go Go.RowKit

theorem jdp {s t a b:Int} {g:Nat} {A B:Option Addr} {n c m d:Nat} {w:World} (hg:Nat.gcd a.natAbs b.natAbs=g) (h:Rep w s A n c a) (h':Rep w t B m d b) (hl:Lim a) (hl':Lim b):
  Calls Tryz.prog 94 #[iv s A n c,iv t B m d] w (jaa ((g:Nat):Int) w):=hg ▸ jqw h h' hl hl'
theorem jbH {s t a b q:Int} {A B:Option Addr} {n c m d:Nat} {w:World} (hq:a.fdiv b=q) (h:Rep w s A n c a) (h':Rep w t B m d b) (hl:Lim a) (hl':Lim b) (hp:b≠0):
  Calls Tryz.prog 95 #[iv s A n c,iv t B m d] w (jaa q w):=hq ▸ jqm h h' hl hl' hp
theorem jga {a b:Int} (h:Lim b) (e:a.natAbs≤b.natAbs):Lim a:=⟨Nat.lt_of_le_of_lt e h.lt⟩
section
variable {s a t b:Int} {A B:Option Addr} {n c m d:Nat} {w:World}
theorem joH (h:Rep w s A n c a):Calls Tryz.prog 47 #[iv s A n c,iv 1 none 0 0] w (jac (Rat.divInt a 1) w):=by
 have qe:=jao
 have h':Rep w 1 none 0 0 1:= .small _ (by omega) (by omega)
 have HR1:=qh (show ∀W,Below w.heap.size w W→Rep W s A n c (Rat.divInt a 1).num from fun W hb=>(h.below hb).to (Rq.num_one a).symm)
 have HR2:=qh (show ∀W,Below w.heap.size w W→Rep W 1 none 0 0 1 from fun W hb=>h'.below hb)
 have HR3:=qh (show ∀W,Below w.heap.size w W→Rep W 1 none 0 0 (((Rat.divInt a 1).den:Nat):Int) from fun W hb=>(h'.below hb).to (by rw [Rq.den_one];rfl))
 have HS:=qh (show sgn 1=1 from rfl)
 clear h h'
 go_enter Tryz.func47,Tryz.ntmps47
 go_wp2_with (first
  | (go_at_call 46;(with_reducible refine mo3 w (jaF HS.out (HR2.out _ bi)) (by go_size) fun w1 hb1 hc1 hf1 z1_0 z1_1 z1_2 _=> ?_)))
 exact bodyPost_ret (v:= .agg #[.int .i64 (s), .slice (A) (n) (c), .int .i64 (1), .slice (none) (0) (0)]) (by simp [results,Tryz.results47,go_sem,hc1,z1_0,z1_1,z1_2]) rfl (jam rfl ⟨(HR1.out _ bi),(HR3.out _ bi)⟩ bi)

theorem jk1 {q:Addr} (h:Rep w s A n c a) (h':Rep w t (some q) m d b) (hl:Lim a) (hl':Lim b) (hp:1 < b):Calls Tryz.prog 47 #[iv s A n c,iv t (some q) m d] w (jac (Rat.divInt a b) w):=by
 have qe:=jao
 have HR1:=qh (show ∀W,Below w.heap.size w W→Rep W s A n c a from fun W hb=>h.below hb)
 have HS:=qh (show sgn b=1 by unfold sgn;rw [if_neg (by omega),if_pos (by omega)])
 obtain ⟨g,hg⟩:∃g,Nat.gcd a.natAbs b.natAbs=g:=⟨_,rfl⟩
 have hgp:=Rq.gcd_pos a (b:=b) (by omega)
 have hgl:=Rq.gcd_le a (b:=b) (by omega)
 have e1:=Rq.num_pos (a:=a) (b:=b) (by omega)
 have e2:=Rq.den_pos (a:=a) (b:=b) (by omega)
 rw [hg] at hgp hgl e1 e2
 obtain ⟨x,hx⟩:∃x,Rat.divInt a b=x:=⟨_,rfl⟩
 rw [hx] at e1 e2 ⊢
 have HG:=qh hg
 have HGL:=qh (show Lim ((g:Nat):Int) from jga hl' (by simpa using hgl))
 have HGP:=qh (show ((g:Nat):Int)≠0 by omega)
 have HE1:=qh e1
 have HE2:=qh e2
 have HL1:=qh hl
 have HL2:=qh hl'
 have HR2:=qh (show ∀W,Below w.heap.size w W→Rep W t (some q) m d b from fun W hb=>h'.below hb)
 clear h h' hl hl' hp hg hgp hgl e1 e2 hx
 go_enter Tryz.func47,Tryz.ntmps47
 go_wp2_with (first
  | (go_at_call 46;(with_reducible refine mo3 w (jaF HS.out (HR2.out _ bi)) (by go_size) fun w1 hb1 hc1 hf1 z1_0 z1_1 z1_2 _=> ?_))
  | (go_at_call 94;(with_reducible refine mi3 w (jdp HG.out (HR1.out _ bi) (HR2.out _ bi) HL1.out HL2.out) (by go_size) fun w2 s2 A2 n2 c2 hr2 hb2 hc2 hf2 z2_0 z2_1 z2_2 _=> ?_)))
 have e3:Rep (w2.alloc (.cells #[.int .i64 s2, .slice A2 n2 c2] 74)) s2 A2 n2 c2 (g:Nat):=(by with_reducible repeat first|assumption|apply rZ|refine rP ?_ rfl (by simp [go_sem,hc2]))
 obtain ⟨W,hWW⟩:∃x,w2.alloc (.cells #[.int .i64 s2, .slice A2 n2 c2] 74)=x:=⟨_,rfl⟩
 have cW_0:W.cell? ⟨w.heap.size,0,none⟩=some (.int .i64 s):=(by rw [←hWW];simp [go_sem,hc2,hc1,z2_0,z2_1,z2_2,z1_0,z1_1,z1_2,nl z2_0,nl z2_1,nl z2_2])
 have cW_1:W.cell? ⟨w.heap.size,1,none⟩=some (.slice A n c):=(by rw [←hWW];simp [go_sem,hc2,hc1,z2_0,z2_1,z2_2,z1_0,z1_1,z1_2,nl z2_0,nl z2_1,nl z2_2])
 have cW_2:W.cell? ⟨w.heap.size+1,0,none⟩=some (.int .i64 t):=(by rw [←hWW];simp [go_sem,hc2,hc1,z2_0,z2_1,z2_2,z1_0,z1_1,z1_2,nl z2_0,nl z2_1,nl z2_2])
 have cW_3:W.cell? ⟨w.heap.size+1,1,none⟩=some (.slice (some q) m d):=(by rw [←hWW];simp [go_sem,hc2,hc1,z2_0,z2_1,z2_2,z1_0,z1_1,z1_2,nl z2_0,nl z2_1,nl z2_2])
 have cW_4:W.cell? ⟨w.heap.size+1+1,0,none⟩=some (.int .i64 0):=(by rw [←hWW];simp [go_sem,hc2,hc1,z2_0,z2_1,z2_2,z1_0,z1_1,z1_2,nl z2_0,nl z2_1,nl z2_2])
 have cW_5:W.cell? ⟨w.heap.size+1+1,1,none⟩=some (.slice none 0 0):=(by rw [←hWW];simp [go_sem,hc2,hc1,z2_0,z2_1,z2_2,z1_0,z1_1,z1_2,nl z2_0,nl z2_1,nl z2_2])
 have cW_6:W.cell? ⟨w.heap.size+1+1,2,none⟩=some (.int .i64 0):=(by rw [←hWW];simp [go_sem,hc2,hc1,z2_0,z2_1,z2_2,z1_0,z1_1,z1_2,nl z2_0,nl z2_1,nl z2_2])
 have cW_7:W.cell? ⟨w.heap.size+1+1,3,none⟩=some (.slice none 0 0):=(by rw [←hWW];simp [go_sem,hc2,hc1,z2_0,z2_1,z2_2,z1_0,z1_1,z1_2,nl z2_0,nl z2_1,nl z2_2])
 have cW_8:W.cell? ⟨w2.heap.size,0,none⟩=some (.int .i64 s2):=(by rw [←hWW];simp [go_sem,hc2,hc1,z2_0,z2_1,z2_2,z1_0,z1_1,z1_2,nl z2_0,nl z2_1,nl z2_2])
 have cW_9:W.cell? ⟨w2.heap.size,1,none⟩=some (.slice A2 n2 c2):=(by rw [←hWW];simp [go_sem,hc2,hc1,z2_0,z2_1,z2_2,z1_0,z1_1,z1_2,nl z2_0,nl z2_1,nl z2_2])
 have fW_0:∀o,W.frozen? ⟨w.heap.size+1+1,o,none⟩=false:=(by intro o;rw [←hWW];simp [go_sem,hf2,hf1,z2_2,z1_2,nl z2_2])
 have zW_0:w.heap.size < W.heap.size:=(by rw [←hWW];first|assumption|(simp;done)|(simp;omega))
 have zW_1:w.heap.size+1 < W.heap.size:=(by rw [←hWW];first|assumption|(simp;done)|(simp;omega))
 have zW_2:w.heap.size+1+1 < W.heap.size:=(by rw [←hWW];first|assumption|(simp;done)|(simp;omega))
 have zW_3:w2.heap.size < W.heap.size:=(by rw [←hWW];first|assumption|(simp;done)|(simp;omega))
 have bW:Below w.heap.size w W:=(by rw [←hWW];exact bi)
 have _:=bm bW
 simp only [hWW]
 rw [hWW] at e3
 obtain ⟨b5,hb5⟩:∃b,w2.heap.size=b:=⟨_,rfl⟩
 rw [hb5] at cW_8 cW_9 zW_3 ⊢
 clear hWW hb5 hc2 hc1 hf2 hf1 hb1 hb2 hr2 z1_0 z1_1 z1_2 z2_0 z2_1 z2_2
 refine ja3 (fun w'=>Below W.heap.size W w') [7] (by kernel_rfl) ?_
 refine tb 0 (.agg #[.int .i64 s, .slice A n c]) [2] rfl (by kernel_rfl) pk rfl (by intros;go_simp) bq0 ?_
 simp only [ppq]
 refine tb 1 (.agg #[.int .i64 s2, .slice A2 n2 c2]) [2] rfl (by kernel_rfl) pk rfl (by intros;go_simp) bq0 ?_
 simp only [ppq]
 refine tb 3 (.agg #[.int .i64 t, .slice (some q) m d]) [5] rfl (by kernel_rfl) pk rfl (by intros;go_simp) bq0 ?_
 simp only [ppq]
 refine tb 4 (.agg #[.int .i64 s2, .slice A2 n2 c2]) [5] rfl (by kernel_rfl) pk rfl (by intros;go_simp) bq0 ?_
 simp only [ppq]
 refine rd1 2 (by kernel_rfl) rfl (fun K hK=> ?_)
 go_simp
 go_wp2_with (go_at_call 95;(with_reducible refine mi3 w (jbH HE1.out (HR1.out _ bi) (by with_reducible repeat first|assumption|apply rZ|refine rP ?_ rfl (by simp [go_sem,zW_0])) HL1.out HGL.out HGP.out) (by go_size) fun w3 s3 A3 n3 c3 hr3 hb3 hc3 hf3 z3_0 z3_1 z3_2 _=> ?_))
 have sS3:=qh (bst bq0 hb3)
 refine hK.out _ _ (fun _=>sS3.out) ?_
 clear hK K
 refine rd1 5 (by kernel_rfl) rfl (fun K hK=> ?_)
 go_simp
 go_wp2_with (go_at_call 95;(with_reducible refine mi3 w (jbH HE2.out (HR2.out _ bi) (by with_reducible repeat first|assumption|apply rZ|refine rP ?_ rfl (by simp [go_sem,zW_0])) HL2.out HGL.out HGP.out) (by go_size) fun w4 s4 A4 n4 c4 hr4 hb4 hc4 hf4 z4_0 z4_1 z4_2 _=> ?_))
 have sS4:=qh (bst sS3.out hb4)
 refine hK.out _ _ (fun _=>sS4.out) ?_
 clear hK K
 refine rd1 6 (by kernel_rfl) rfl (fun K hK=> ?_)
 go_simp
 refine hK.out _ _ (fun _=>bi) ?_
 clear hK K
 refine rd1 7 (by kernel_rfl) rfl (fun K hK=> ?_)
 go_simp
 refine hK.out _ _ (fun h=>(h (by decide)).elim) ?_
 clear hK K
 refine ja2 (by kernel_rfl) ?_ _
 go_wp2
 exact bodyPost_ret (v:= .agg #[.int .i64 (s3), .slice (A3) (n3) (c3), .int .i64 (s4), .slice (A4) (n4) (c4)]) (by simp [results,Tryz.results47,go_sem,hc4,z3_2,hc3,zW_2,cW_4,cW_5,cW_6,cW_7]) rfl (jam rfl ⟨(by with_reducible repeat first|assumption|apply rZ|refine rP ?_ rfl (by simp [go_sem,hc4,z3_2,hc3,zW_2,cW_4,cW_5,cW_6,cW_7])),(by with_reducible repeat first|assumption|apply rZ|refine rP ?_ rfl (by simp [go_sem,hc4,z3_2,hc3,zW_2,cW_4,cW_5,cW_6,cW_7]))⟩ bi)
theorem jjV (h:Rep w s A n c a) (h':Rep w t none m d b) (hl:Lim a) (hl':Lim b) (hp:1 < b):Calls Tryz.prog 47 #[iv s A n c,iv t none m d] w (jac (Rat.divInt a b) w):=by
 have qe:=jao
 have HR1:=qh (show ∀W,Below w.heap.size w W→Rep W s A n c a from fun W hb=>h.below hb)
 have HS:=qh (show sgn b=1 by unfold sgn;rw [if_neg (by omega),if_pos (by omega)])
 obtain ⟨g,hg⟩:∃g,Nat.gcd a.natAbs b.natAbs=g:=⟨_,rfl⟩
 have hgp:=Rq.gcd_pos a (b:=b) (by omega)
 have hgl:=Rq.gcd_le a (b:=b) (by omega)
 have e1:=Rq.num_pos (a:=a) (b:=b) (by omega)
 have e2:=Rq.den_pos (a:=a) (b:=b) (by omega)
 rw [hg] at hgp hgl e1 e2
 obtain ⟨x,hx⟩:∃x,Rat.divInt a b=x:=⟨_,rfl⟩
 rw [hx] at e1 e2 ⊢
 have HG:=qh hg
 have HGL:=qh (show Lim ((g:Nat):Int) from jga hl' (by simpa using hgl))
 have HGP:=qh (show ((g:Nat):Int)≠0 by omega)
 have HE1:=qh e1
 have HE2:=qh e2
 have HL1:=qh hl
 have HL2:=qh hl'
 have qt:(t==1)=false:=by rw [beq_eq_false_iff_ne];have:=h'.none_.1;omega
 have HR2:=qh (show ∀W,Below w.heap.size w W→Rep W t none m d b from fun W hb=>h'.below hb)
 clear h h' hl hl' hp hg hgp hgl e1 e2 hx
 go_enter Tryz.func47,Tryz.ntmps47
 go_wp2_with (first
  | (go_at_call 46;(with_reducible refine mo3 w (jaF HS.out (HR2.out _ bi)) (by go_size) fun w1 hb1 hc1 hf1 z1_0 z1_1 z1_2 _=> ?_))
  | (go_at_call 94;(with_reducible refine mi3 w (jdp HG.out (HR1.out _ bi) (HR2.out _ bi) HL1.out HL2.out) (by go_size) fun w2 s2 A2 n2 c2 hr2 hb2 hc2 hf2 z2_0 z2_1 z2_2 _=> ?_)))
 have e3:Rep (w2.alloc (.cells #[.int .i64 s2, .slice A2 n2 c2] 74)) s2 A2 n2 c2 (g:Nat):=(by with_reducible repeat first|assumption|apply rZ|refine rP ?_ rfl (by simp [go_sem,hc2]))
 obtain ⟨W,hWW⟩:∃x,w2.alloc (.cells #[.int .i64 s2, .slice A2 n2 c2] 74)=x:=⟨_,rfl⟩
 have cW_0:W.cell? ⟨w.heap.size,0,none⟩=some (.int .i64 s):=(by rw [←hWW];simp [go_sem,hc2,hc1,z2_0,z2_1,z2_2,z1_0,z1_1,z1_2,nl z2_0,nl z2_1,nl z2_2])
 have cW_1:W.cell? ⟨w.heap.size,1,none⟩=some (.slice A n c):=(by rw [←hWW];simp [go_sem,hc2,hc1,z2_0,z2_1,z2_2,z1_0,z1_1,z1_2,nl z2_0,nl z2_1,nl z2_2])
 have cW_2:W.cell? ⟨w.heap.size+1,0,none⟩=some (.int .i64 t):=(by rw [←hWW];simp [go_sem,hc2,hc1,z2_0,z2_1,z2_2,z1_0,z1_1,z1_2,nl z2_0,nl z2_1,nl z2_2])
 have cW_3:W.cell? ⟨w.heap.size+1,1,none⟩=some (.slice none m d):=(by rw [←hWW];simp [go_sem,hc2,hc1,z2_0,z2_1,z2_2,z1_0,z1_1,z1_2,nl z2_0,nl z2_1,nl z2_2])
 have cW_4:W.cell? ⟨w.heap.size+1+1,0,none⟩=some (.int .i64 0):=(by rw [←hWW];simp [go_sem,hc2,hc1,z2_0,z2_1,z2_2,z1_0,z1_1,z1_2,nl z2_0,nl z2_1,nl z2_2])
 have cW_5:W.cell? ⟨w.heap.size+1+1,1,none⟩=some (.slice none 0 0):=(by rw [←hWW];simp [go_sem,hc2,hc1,z2_0,z2_1,z2_2,z1_0,z1_1,z1_2,nl z2_0,nl z2_1,nl z2_2])
 have cW_6:W.cell? ⟨w.heap.size+1+1,2,none⟩=some (.int .i64 0):=(by rw [←hWW];simp [go_sem,hc2,hc1,z2_0,z2_1,z2_2,z1_0,z1_1,z1_2,nl z2_0,nl z2_1,nl z2_2])
 have cW_7:W.cell? ⟨w.heap.size+1+1,3,none⟩=some (.slice none 0 0):=(by rw [←hWW];simp [go_sem,hc2,hc1,z2_0,z2_1,z2_2,z1_0,z1_1,z1_2,nl z2_0,nl z2_1,nl z2_2])
 have cW_8:W.cell? ⟨w2.heap.size,0,none⟩=some (.int .i64 s2):=(by rw [←hWW];simp [go_sem,hc2,hc1,z2_0,z2_1,z2_2,z1_0,z1_1,z1_2,nl z2_0,nl z2_1,nl z2_2])
 have cW_9:W.cell? ⟨w2.heap.size,1,none⟩=some (.slice A2 n2 c2):=(by rw [←hWW];simp [go_sem,hc2,hc1,z2_0,z2_1,z2_2,z1_0,z1_1,z1_2,nl z2_0,nl z2_1,nl z2_2])
 have fW_0:∀o,W.frozen? ⟨w.heap.size+1+1,o,none⟩=false:=(by intro o;rw [←hWW];simp [go_sem,hf2,hf1,z2_2,z1_2,nl z2_2])
 have zW_0:w.heap.size < W.heap.size:=(by rw [←hWW];first|assumption|(simp;done)|(simp;omega))
 have zW_1:w.heap.size+1 < W.heap.size:=(by rw [←hWW];first|assumption|(simp;done)|(simp;omega))
 have zW_2:w.heap.size+1+1 < W.heap.size:=(by rw [←hWW];first|assumption|(simp;done)|(simp;omega))
 have zW_3:w2.heap.size < W.heap.size:=(by rw [←hWW];first|assumption|(simp;done)|(simp;omega))
 have bW:Below w.heap.size w W:=(by rw [←hWW];exact bi)
 have _:=bm bW
 simp only [hWW]
 rw [hWW] at e3
 obtain ⟨b5,hb5⟩:∃b,w2.heap.size=b:=⟨_,rfl⟩
 rw [hb5] at cW_8 cW_9 zW_3 ⊢
 clear hWW hb5 hc2 hc1 hf2 hf1 hb1 hb2 hr2 z1_0 z1_1 z1_2 z2_0 z2_1 z2_2
 refine ja3 (fun w'=>Below W.heap.size W w') [7] (by kernel_rfl) ?_
 refine tb 0 (.agg #[.int .i64 s, .slice A n c]) [2] rfl (by kernel_rfl) pk rfl (by intros;go_simp) bq0 ?_
 simp only [ppq]
 refine tb 1 (.agg #[.int .i64 s2, .slice A2 n2 c2]) [2] rfl (by kernel_rfl) pk rfl (by intros;go_simp) bq0 ?_
 simp only [ppq]
 refine tb 3 (.agg #[.int .i64 t, .slice none m d]) [5] rfl (by kernel_rfl) pk rfl (by intros;go_simp) bq0 ?_
 simp only [ppq]
 refine tb 4 (.agg #[.int .i64 s2, .slice A2 n2 c2]) [5] rfl (by kernel_rfl) pk rfl (by intros;go_simp) bq0 ?_
 simp only [ppq]
 refine rd1 2 (by kernel_rfl) rfl (fun K hK=> ?_)
 go_simp
 go_wp2_with (go_at_call 95;(with_reducible refine mi3 w (jbH HE1.out (HR1.out _ bi) (by with_reducible repeat first|assumption|apply rZ|refine rP ?_ rfl (by simp [go_sem,zW_0])) HL1.out HGL.out HGP.out) (by go_size) fun w3 s3 A3 n3 c3 hr3 hb3 hc3 hf3 z3_0 z3_1 z3_2 _=> ?_))
 have sS3:=qh (bst bq0 hb3)
 refine hK.out _ _ (fun _=>sS3.out) ?_
 clear hK K
 refine rd1 5 (by kernel_rfl) rfl (fun K hK=> ?_)
 go_simp
 go_wp2_with (go_at_call 95;(with_reducible refine mi3 w (jbH HE2.out (HR2.out _ bi) (by with_reducible repeat first|assumption|apply rZ|refine rP ?_ rfl (by simp [go_sem,zW_0])) HL2.out HGL.out HGP.out) (by go_size) fun w4 s4 A4 n4 c4 hr4 hb4 hc4 hf4 z4_0 z4_1 z4_2 _=> ?_))
 have sS4:=qh (bst sS3.out hb4)
 refine hK.out _ _ (fun _=>sS4.out) ?_
 clear hK K
 refine rd1 6 (by kernel_rfl) rfl (fun K hK=> ?_)
 go_simp
 refine hK.out _ _ (fun _=>bi) ?_
 clear hK K
 refine rd1 7 (by kernel_rfl) rfl (fun K hK=> ?_)
 go_simp
 refine hK.out _ _ (fun h=>(h (by decide)).elim) ?_
 clear hK K
 refine ja2 (by kernel_rfl) ?_ _
 go_wp2
 exact bodyPost_ret (v:= .agg #[.int .i64 (s3), .slice (A3) (n3) (c3), .int .i64 (s4), .slice (A4) (n4) (c4)]) (by simp [results,Tryz.results47,go_sem,hc4,z3_2,hc3,zW_2,cW_4,cW_5,cW_6,cW_7]) rfl (jam rfl ⟨(by with_reducible repeat first|assumption|apply rZ|refine rP ?_ rfl (by simp [go_sem,hc4,z3_2,hc3,zW_2,cW_4,cW_5,cW_6,cW_7])),(by with_reducible repeat first|assumption|apply rZ|refine rP ?_ rfl (by simp [go_sem,hc4,z3_2,hc3,zW_2,cW_4,cW_5,cW_6,cW_7]))⟩ bi)
theorem jng (h:Rep w s A n c a) (h':Rep w t B m d b) (hl:Lim a) (hl':Lim b) (hp:0 < b):Calls Tryz.prog 47 #[iv s A n c,iv t B m d] w (jac (Rat.divInt a b) w):=by
 rcases B with _|q
 ·obtain ⟨rfl,rfl,rfl,_⟩:=h'.none_
  by_cases h1:t=1
  ·subst h1;exact joH h
  ·exact jjV h h' hl hl' (by omega)
 ·have h2:=jiN h'
  have h1:b≠1:=by intro e;rw [e] at h2;simp at h2
  exact jk1 h h' hl hl' (by omega)
end
section
variable {s a t b:Int} {A B:Option Addr} {n c m d:Nat} {w:World}

theorem jos (h:Rep w s A n c a) (h':Rep w t B m d b) (hl:Lim a) (hl':Lim b) (hp:b < 0) {na nb:Int} (ha: -a=na) (hb: -b=nb):Calls Tryz.prog 47 #[iv s A n c,iv t B m d] w (jac (Rat.divInt na nb) w):=by
 have qe:=jao
 have HR1:=qh (show ∀W,Below w.heap.size w W→Rep W s A n c a from fun W hb=>h.below hb)
 have HR2:=qh (show ∀W,Below w.heap.size w W→Rep W t B m d b from fun W hb=>h'.below hb)
 have HS:=qh (show sgn b= -1 by unfold sgn;rw [if_pos hp])
 have HA:=qh ha
 have HB:=qh hb
 have HL1:=qh (ha ▸ hl.neg:Lim na)
 have HL2:=qh (hb ▸ hl'.neg:Lim nb)
 have HP:=qh (show 0 < nb by omega)
 obtain ⟨x,hx⟩:∃x,Rat.divInt na nb=x:=⟨_,rfl⟩
 rw [hx]
 have HX:=qh hx
 clear h h' hl hl' hp ha hb hx
 go_enter Tryz.func47,Tryz.ntmps47
 go_wp2_with (first
  | (go_at_call 46;(with_reducible refine mo3 w (jaF HS.out (HR2.out _ bi)) (by go_size) fun w1 hb1 hc1 hf1 z1_0 z1_1 z1_2 _=> ?_)))
 refine ja3 (fun w'=>Below w1.heap.size w1 w') [4,5] (by kernel_rfl) ?_
 refine tb 0 (.agg #[.int .i64 s, .slice A n c]) [1] rfl (by kernel_rfl) pk rfl (by intros;go_simp) bq0 ?_
 simp only [ppq]
 refine tb 2 (.agg #[.int .i64 t, .slice B m d]) [3] rfl (by kernel_rfl) pk rfl (by intros;go_simp) bq0 ?_
 simp only [ppq]
 refine rd1 1 (by kernel_rfl) rfl (fun K hK=> ?_)
 go_simp
 go_wp2_with (go_at_call 93;(with_reducible refine mi3 w (je0 HA.out (HR1.out _ bi)) (by go_size) fun w3 s3 A3 n3 c3 hr3 hb3 hc3 hf3 z3_0 z3_1 z3_2 _=> ?_))
 have sS3:=qh (bst bq0 hb3)
 refine hK.out _ _ (fun _=>sS3.out) ?_
 clear hK K
 refine rd1 3 (by kernel_rfl) rfl (fun K hK=> ?_)
 go_simp
 go_wp2_with (go_at_call 93;(with_reducible refine mi3 w (je0 HB.out (HR2.out _ bi)) (by go_size) fun w4 s4 A4 n4 c4 hr4 hb4 hc4 hf4 z4_0 z4_1 z4_2 _=> ?_))
 have sS4:=qh (bst sS3.out hb4)
 refine hK.out _ _ (fun _=>sS4.out) ?_
 clear hK K
 refine rd1 4 (by kernel_rfl) rfl (fun K hK=> ?_)
 go_simp
 refine hK.out _ _ (fun h=>(h (by decide)).elim) ?_
 clear hK K
 refine rd1 5 (by kernel_rfl) rfl (fun K hK=> ?_)
 go_simp
 refine hK.out _ _ (fun h=>(h (by decide)).elim) ?_
 clear hK K
 refine ja2 (by kernel_rfl) ?_ _
 have f0:w4.cell? ⟨w.heap.size,0,none⟩=some (.int .i64 s):=by simp [go_sem,hc4,hc3,hc1,z4_0,z4_1,z4_2,z3_0,z3_1,z3_2,z1_0,z1_1,z1_2]
 have f1:w4.cell? ⟨w.heap.size,1,none⟩=some (.slice A n c):=by simp [go_sem,hc4,hc3,hc1,z4_0,z4_1,z4_2,z3_0,z3_1,z3_2,z1_0,z1_1,z1_2]
 have f2:w4.cell? ⟨w.heap.size+1,0,none⟩=some (.int .i64 t):=by simp [go_sem,hc4,hc3,hc1,z4_0,z4_1,z4_2,z3_0,z3_1,z3_2,z1_0,z1_1,z1_2]
 have f3:w4.cell? ⟨w.heap.size+1,1,none⟩=some (.slice B m d):=by simp [go_sem,hc4,hc3,hc1,z4_0,z4_1,z4_2,z3_0,z3_1,z3_2,z1_0,z1_1,z1_2]
 have e3:Rep ((((w4.setCell ⟨w.heap.size,0,none⟩ (.int .i64 s3)).setCell ⟨w.heap.size,1,none⟩ (.slice A3 n3 c3)).setCell ⟨w.heap.size+1,0,none⟩ (.int .i64 s4)).setCell ⟨w.heap.size+1,1,none⟩ (.slice A4 n4 c4)) s3 A3 n3 c3 na:=(by with_reducible repeat first|assumption|apply rZ|refine rP ?_ rfl (by simp [go_sem,f0,f1,f2,f3]))
 have e4:Rep ((((w4.setCell ⟨w.heap.size,0,none⟩ (.int .i64 s3)).setCell ⟨w.heap.size,1,none⟩ (.slice A3 n3 c3)).setCell ⟨w.heap.size+1,0,none⟩ (.int .i64 s4)).setCell ⟨w.heap.size+1,1,none⟩ (.slice A4 n4 c4)) s4 A4 n4 c4 nb:=(by with_reducible repeat first|assumption|apply rZ|refine rP ?_ rfl (by simp [go_sem,f0,f1,f2,f3]))
 obtain ⟨W,hWW⟩:∃x,(((w4.setCell ⟨w.heap.size,0,none⟩ (.int .i64 s3)).setCell ⟨w.heap.size,1,none⟩ (.slice A3 n3 c3)).setCell ⟨w.heap.size+1,0,none⟩ (.int .i64 s4)).setCell ⟨w.heap.size+1,1,none⟩ (.slice A4 n4 c4)=x:=⟨_,rfl⟩
 have cW_0:W.cell? ⟨w.heap.size,0,none⟩=some (.int .i64 s3):=(by rw [←hWW];simp [go_sem,f0,f1,f2,f3,hc4,hc3,hc1,z4_0,z4_1,z4_2,z3_0,z3_1,z3_2,z1_0,z1_1,z1_2])
 have cW_1:W.cell? ⟨w.heap.size,1,none⟩=some (.slice A3 n3 c3):=(by rw [←hWW];simp [go_sem,f0,f1,f2,f3,hc4,hc3,hc1,z4_0,z4_1,z4_2,z3_0,z3_1,z3_2,z1_0,z1_1,z1_2])
 have cW_2:W.cell? ⟨w.heap.size+1,0,none⟩=some (.int .i64 s4):=(by rw [←hWW];simp [go_sem,f0,f1,f2,f3,hc4,hc3,hc1,z4_0,z4_1,z4_2,z3_0,z3_1,z3_2,z1_0,z1_1,z1_2])
 have cW_3:W.cell? ⟨w.heap.size+1,1,none⟩=some (.slice A4 n4 c4):=(by rw [←hWW];simp [go_sem,f0,f1,f2,f3,hc4,hc3,hc1,z4_0,z4_1,z4_2,z3_0,z3_1,z3_2,z1_0,z1_1,z1_2])
 have cW_4:W.cell? ⟨w.heap.size+1+1,0,none⟩=some (.int .i64 0):=(by rw [←hWW];simp [go_sem,f0,f1,f2,f3,hc4,hc3,hc1,z4_0,z4_1,z4_2,z3_0,z3_1,z3_2,z1_0,z1_1,z1_2])
 have cW_5:W.cell? ⟨w.heap.size+1+1,1,none⟩=some (.slice none 0 0):=(by rw [←hWW];simp [go_sem,f0,f1,f2,f3,hc4,hc3,hc1,z4_0,z4_1,z4_2,z3_0,z3_1,z3_2,z1_0,z1_1,z1_2])
 have cW_6:W.cell? ⟨w.heap.size+1+1,2,none⟩=some (.int .i64 0):=(by rw [←hWW];simp [go_sem,f0,f1,f2,f3,hc4,hc3,hc1,z4_0,z4_1,z4_2,z3_0,z3_1,z3_2,z1_0,z1_1,z1_2])
 have cW_7:W.cell? ⟨w.heap.size+1+1,3,none⟩=some (.slice none 0 0):=(by rw [←hWW];simp [go_sem,f0,f1,f2,f3,hc4,hc3,hc1,z4_0,z4_1,z4_2,z3_0,z3_1,z3_2,z1_0,z1_1,z1_2])
 have fW_0:∀o,W.frozen? ⟨w.heap.size+1+1,o,none⟩=false:=(by intro o;rw [←hWW];simp [go_sem,hf4,hf3,hf1,z4_0,z4_1,z4_2,z3_0,z3_1,z3_2,z1_0,z1_1,z1_2])
 have zW_0:w.heap.size < W.heap.size:=(by rw [←hWW];first|assumption|(simp;done)|(simp;omega))
 have zW_1:w.heap.size+1 < W.heap.size:=(by rw [←hWW];first|assumption|(simp;done)|(simp;omega))
 have zW_2:w.heap.size+1+1 < W.heap.size:=(by rw [←hWW];first|assumption|(simp;done)|(simp;omega))
 have bW:Below w.heap.size w W:=(by rw [←hWW];exact bi)
 have _:=bm bW
 simp only [hWW]
 rw [hWW] at e3 e4
 clear hWW f0 f1 f2 f3 hr3 hr4 hc4 hc3 hc1 hf4 hf3 hf1 hb1 hb3 hb4 z4_0 z4_1 z4_2 z3_0 z3_1 z3_2 z1_0 z1_1 z1_2
 have HRA:=qh (show ∀U,Below W.heap.size W U→Rep U s3 A3 n3 c3 na from fun U hb=>e3.below hb)
 have HRB:=qh (show ∀U,Below W.heap.size W U→Rep U s4 A4 n4 c4 nb from fun U hb=>e4.below hb)
 by_cases hone:nb=1
 ·subst hone
  have ho:=jiN e4
  rcases A4 with _|q
  ·obtain ⟨rfl,rfl,rfl,_⟩:=e4.none_
   have e5:Rep W s3 A3 n3 c3 x.num:=e3.to (by rw [←HX.out,Rq.num_one])
   have e6:Rep W 1 none 0 0 ((x.den:Nat):Int):=e4.to (by rw [←HX.out,Rq.den_one];rfl)
   clear ho e3 e4
   go_wp2
   exact bodyPost_ret (v:= .agg #[.int .i64 (s3), .slice (A3) (n3) (c3), .int .i64 (1), .slice (none) (0) (0)]) (by simp [results,Tryz.results47,go_sem,cW_4,cW_5,cW_6,cW_7]) rfl (jam rfl ⟨(by with_reducible repeat first|assumption|apply rZ|refine rP ?_ rfl (by simp [go_sem,cW_4,cW_5,cW_6,cW_7])),(by with_reducible repeat first|assumption|apply rZ|refine rP ?_ rfl (by simp [go_sem,cW_4,cW_5,cW_6,cW_7]))⟩ bi)
  ·exact absurd ho (by simp)
 ·obtain ⟨g,hg⟩:∃g,Nat.gcd na.natAbs nb.natAbs=g:=⟨_,rfl⟩
  have hgp:=Rq.gcd_pos na (b:=nb) (by have:=HP.out;omega)
  have hgl:=Rq.gcd_le na (b:=nb) (by have:=HP.out;omega)
  have e1:=Rq.num_pos (a:=na) (b:=nb) HP.out
  have e2:=Rq.den_pos (a:=na) (b:=nb) HP.out
  rw [hg] at hgp hgl e1 e2
  rw [HX.out] at e1 e2
  have HG:=qh hg
  have HGL:=qh (show Lim ((g:Nat):Int) from jga HL2.out (by simpa using hgl))
  have HGP:=qh (show ((g:Nat):Int)≠0 by omega)
  have HE1:=qh e1
  have HE2:=qh e2
  have HO:=qh hone
  clear e1 e2 hg hgp hgl hone
  rcases A4 with _|q
  ·have qt:(s4==1)=false:=by rw [beq_eq_false_iff_ne];have:=e4.none_.1;have:=HO.out;omega
   go_wp2_with (go_at_call 94;(with_reducible refine mi3 w (jdp HG.out (HRA.out _ bi) (HRB.out _ bi) HL1.out HL2.out) (by go_size) fun w5 s5 A5 n5 c5 hr5 hb5 hc5 hf5 z5_0 z5_1 z5_2 _=> ?_))
   have e5:Rep (w5.alloc (.cells #[.int .i64 s5, .slice A5 n5 c5] 74)) s5 A5 n5 c5 (g:Nat):=(by with_reducible repeat first|assumption|apply rZ|refine rP ?_ rfl (by simp [go_sem,hc5]))
   obtain ⟨V,hWV⟩:∃x,w5.alloc (.cells #[.int .i64 s5, .slice A5 n5 c5] 74)=x:=⟨_,rfl⟩
   have cV_0:V.cell? ⟨w.heap.size,0,none⟩=some (.int .i64 s3):=(by rw [←hWV];simp [go_sem,hc5,zW_0,zW_1,zW_2,cW_0,cW_1,cW_2,cW_3,cW_4,cW_5,cW_6,cW_7,z5_0,z5_1,z5_2,nl z5_0,nl z5_1,nl z5_2])
   have cV_1:V.cell? ⟨w.heap.size,1,none⟩=some (.slice A3 n3 c3):=(by rw [←hWV];simp [go_sem,hc5,zW_0,zW_1,zW_2,cW_0,cW_1,cW_2,cW_3,cW_4,cW_5,cW_6,cW_7,z5_0,z5_1,z5_2,nl z5_0,nl z5_1,nl z5_2])
   have cV_2:V.cell? ⟨w.heap.size+1,0,none⟩=some (.int .i64 s4):=(by rw [←hWV];simp [go_sem,hc5,zW_0,zW_1,zW_2,cW_0,cW_1,cW_2,cW_3,cW_4,cW_5,cW_6,cW_7,z5_0,z5_1,z5_2,nl z5_0,nl z5_1,nl z5_2])
   have cV_3:V.cell? ⟨w.heap.size+1,1,none⟩=some (.slice none n4 c4):=(by rw [←hWV];simp [go_sem,hc5,zW_0,zW_1,zW_2,cW_0,cW_1,cW_2,cW_3,cW_4,cW_5,cW_6,cW_7,z5_0,z5_1,z5_2,nl z5_0,nl z5_1,nl z5_2])
   have cV_4:V.cell? ⟨w.heap.size+1+1,0,none⟩=some (.int .i64 0):=(by rw [←hWV];simp [go_sem,hc5,zW_0,zW_1,zW_2,cW_0,cW_1,cW_2,cW_3,cW_4,cW_5,cW_6,cW_7,z5_0,z5_1,z5_2,nl z5_0,nl z5_1,nl z5_2])
   have cV_5:V.cell? ⟨w.heap.size+1+1,1,none⟩=some (.slice none 0 0):=(by rw [←hWV];simp [go_sem,hc5,zW_0,zW_1,zW_2,cW_0,cW_1,cW_2,cW_3,cW_4,cW_5,cW_6,cW_7,z5_0,z5_1,z5_2,nl z5_0,nl z5_1,nl z5_2])
   have cV_6:V.cell? ⟨w.heap.size+1+1,2,none⟩=some (.int .i64 0):=(by rw [←hWV];simp [go_sem,hc5,zW_0,zW_1,zW_2,cW_0,cW_1,cW_2,cW_3,cW_4,cW_5,cW_6,cW_7,z5_0,z5_1,z5_2,nl z5_0,nl z5_1,nl z5_2])
   have cV_7:V.cell? ⟨w.heap.size+1+1,3,none⟩=some (.slice none 0 0):=(by rw [←hWV];simp [go_sem,hc5,zW_0,zW_1,zW_2,cW_0,cW_1,cW_2,cW_3,cW_4,cW_5,cW_6,cW_7,z5_0,z5_1,z5_2,nl z5_0,nl z5_1,nl z5_2])
   have cV_8:V.cell? ⟨w5.heap.size,0,none⟩=some (.int .i64 s5):=(by rw [←hWV];simp [go_sem,hc5,zW_0,zW_1,zW_2,cW_0,cW_1,cW_2,cW_3,cW_4,cW_5,cW_6,cW_7,z5_0,z5_1,z5_2,nl z5_0,nl z5_1,nl z5_2])
   have cV_9:V.cell? ⟨w5.heap.size,1,none⟩=some (.slice A5 n5 c5):=(by rw [←hWV];simp [go_sem,hc5,zW_0,zW_1,zW_2,cW_0,cW_1,cW_2,cW_3,cW_4,cW_5,cW_6,cW_7,z5_0,z5_1,z5_2,nl z5_0,nl z5_1,nl z5_2])
   have fV_0:∀o,V.frozen? ⟨w.heap.size+1+1,o,none⟩=false:=(by intro o;rw [←hWV];simp [go_sem,hf5,fW_0,zW_2,z5_2,nl z5_2])
   have zV_0:w.heap.size < V.heap.size:=(by rw [←hWV];first|assumption|(simp;done)|(simp;omega))
   have zV_1:w.heap.size+1 < V.heap.size:=(by rw [←hWV];first|assumption|(simp;done)|(simp;omega))
   have zV_2:w.heap.size+1+1 < V.heap.size:=(by rw [←hWV];first|assumption|(simp;done)|(simp;omega))
   have zV_3:w5.heap.size < V.heap.size:=(by rw [←hWV];first|assumption|(simp;done)|(simp;omega))
   have bV:Below w.heap.size w V:=(by rw [←hWV];exact bi)
   have _:=bm bV
   simp only [hWV]
   have bWV:Below W.heap.size W V:=(by rw [←hWV];exact bi)
   have _:=bm bWV
   rw [hWV] at e5
   obtain ⟨b5,hb5'⟩:∃b,w5.heap.size=b:=⟨_,rfl⟩
   rw [hb5'] at cV_8 cV_9 zV_3 ⊢
   clear hWV hb5' hc5 hf5 hb5 hr5 z5_0 z5_1 z5_2 cW_0 cW_1 cW_2 cW_3 cW_4 cW_5 cW_6 cW_7 fW_0 zW_0 zW_1 zW_2 bW
   refine ja3 (fun w'=>Below V.heap.size V w') [7] (by kernel_rfl) ?_
   refine tb 0 (.agg #[.int .i64 s3, .slice A3 n3 c3]) [2] rfl (by kernel_rfl) pk rfl (by intros;go_simp) bq0 ?_
   simp only [ppq]
   refine tb 1 (.agg #[.int .i64 s5, .slice A5 n5 c5]) [2] rfl (by kernel_rfl) pk rfl (by intros;go_simp) bq0 ?_
   simp only [ppq]
   refine tb 3 (.agg #[.int .i64 s4, .slice none n4 c4]) [5] rfl (by kernel_rfl) pk rfl (by intros;go_simp) bq0 ?_
   simp only [ppq]
   refine tb 4 (.agg #[.int .i64 s5, .slice A5 n5 c5]) [5] rfl (by kernel_rfl) pk rfl (by intros;go_simp) bq0 ?_
   simp only [ppq]
   refine rd1 2 (by kernel_rfl) rfl (fun K hK=> ?_)
   go_simp
   go_wp2_with (go_at_call 95;(with_reducible refine mi3 w (jbH HE1.out (HRA.out _ bi) (by with_reducible repeat first|assumption|apply rZ|refine rP ?_ rfl (by simp [go_sem,zV_0])) HL1.out HGL.out HGP.out) (by go_size) fun w6 s6 A6 n6 c6 hr6 hb6 hc6 hf6 z6_0 z6_1 z6_2 _=> ?_))
   have sS6:=qh (bst bq0 hb6)
   refine hK.out _ _ (fun _=>sS6.out) ?_
   clear hK K
   refine rd1 5 (by kernel_rfl) rfl (fun K hK=> ?_)
   go_simp
   go_wp2_with (go_at_call 95;(with_reducible refine mi3 w (jbH HE2.out (HRB.out _ bi) (by with_reducible repeat first|assumption|apply rZ|refine rP ?_ rfl (by simp [go_sem,zV_0])) HL2.out HGL.out HGP.out) (by go_size) fun w7 s7 A7 n7 c7 hr7 hb7 hc7 hf7 z7_0 z7_1 z7_2 _=> ?_))
   have sS7:=qh (bst sS6.out hb7)
   refine hK.out _ _ (fun _=>sS7.out) ?_
   clear hK K
   refine rd1 6 (by kernel_rfl) rfl (fun K hK=> ?_)
   go_simp
   refine hK.out _ _ (fun _=>bi) ?_
   clear hK K
   refine rd1 7 (by kernel_rfl) rfl (fun K hK=> ?_)
   go_simp
   refine hK.out _ _ (fun h=>(h (by decide)).elim) ?_
   clear hK K
   refine ja2 (by kernel_rfl) ?_ _
   go_wp2
   exact bodyPost_ret (v:= .agg #[.int .i64 (s6), .slice (A6) (n6) (c6), .int .i64 (s7), .slice (A7) (n7) (c7)]) (by simp [results,Tryz.results47,go_sem,hc7,z6_2,hc6,zV_2,cV_4,cV_5,cV_6,cV_7]) rfl (jam rfl ⟨(by with_reducible repeat first|assumption|apply rZ|refine rP ?_ rfl (by simp [go_sem,hc7,z6_2,hc6,zV_2,cV_4,cV_5,cV_6,cV_7])),(by with_reducible repeat first|assumption|apply rZ|refine rP ?_ rfl (by simp [go_sem,hc7,z6_2,hc6,zV_2,cV_4,cV_5,cV_6,cV_7]))⟩ bi)
  ·go_wp2_with (go_at_call 94;(with_reducible refine mi3 w (jdp HG.out (HRA.out _ bi) (HRB.out _ bi) HL1.out HL2.out) (by go_size) fun w5 s5 A5 n5 c5 hr5 hb5 hc5 hf5 z5_0 z5_1 z5_2 _=> ?_))
   have e5:Rep (w5.alloc (.cells #[.int .i64 s5, .slice A5 n5 c5] 74)) s5 A5 n5 c5 (g:Nat):=(by with_reducible repeat first|assumption|apply rZ|refine rP ?_ rfl (by simp [go_sem,hc5]))
   obtain ⟨V,hWV⟩:∃x,w5.alloc (.cells #[.int .i64 s5, .slice A5 n5 c5] 74)=x:=⟨_,rfl⟩
   have cV_0:V.cell? ⟨w.heap.size,0,none⟩=some (.int .i64 s3):=(by rw [←hWV];simp [go_sem,hc5,zW_0,zW_1,zW_2,cW_0,cW_1,cW_2,cW_3,cW_4,cW_5,cW_6,cW_7,z5_0,z5_1,z5_2,nl z5_0,nl z5_1,nl z5_2])
   have cV_1:V.cell? ⟨w.heap.size,1,none⟩=some (.slice A3 n3 c3):=(by rw [←hWV];simp [go_sem,hc5,zW_0,zW_1,zW_2,cW_0,cW_1,cW_2,cW_3,cW_4,cW_5,cW_6,cW_7,z5_0,z5_1,z5_2,nl z5_0,nl z5_1,nl z5_2])
   have cV_2:V.cell? ⟨w.heap.size+1,0,none⟩=some (.int .i64 s4):=(by rw [←hWV];simp [go_sem,hc5,zW_0,zW_1,zW_2,cW_0,cW_1,cW_2,cW_3,cW_4,cW_5,cW_6,cW_7,z5_0,z5_1,z5_2,nl z5_0,nl z5_1,nl z5_2])
   have cV_3:V.cell? ⟨w.heap.size+1,1,none⟩=some (.slice (some q) n4 c4):=(by rw [←hWV];simp [go_sem,hc5,zW_0,zW_1,zW_2,cW_0,cW_1,cW_2,cW_3,cW_4,cW_5,cW_6,cW_7,z5_0,z5_1,z5_2,nl z5_0,nl z5_1,nl z5_2])
   have cV_4:V.cell? ⟨w.heap.size+1+1,0,none⟩=some (.int .i64 0):=(by rw [←hWV];simp [go_sem,hc5,zW_0,zW_1,zW_2,cW_0,cW_1,cW_2,cW_3,cW_4,cW_5,cW_6,cW_7,z5_0,z5_1,z5_2,nl z5_0,nl z5_1,nl z5_2])
   have cV_5:V.cell? ⟨w.heap.size+1+1,1,none⟩=some (.slice none 0 0):=(by rw [←hWV];simp [go_sem,hc5,zW_0,zW_1,zW_2,cW_0,cW_1,cW_2,cW_3,cW_4,cW_5,cW_6,cW_7,z5_0,z5_1,z5_2,nl z5_0,nl z5_1,nl z5_2])
   have cV_6:V.cell? ⟨w.heap.size+1+1,2,none⟩=some (.int .i64 0):=(by rw [←hWV];simp [go_sem,hc5,zW_0,zW_1,zW_2,cW_0,cW_1,cW_2,cW_3,cW_4,cW_5,cW_6,cW_7,z5_0,z5_1,z5_2,nl z5_0,nl z5_1,nl z5_2])
   have cV_7:V.cell? ⟨w.heap.size+1+1,3,none⟩=some (.slice none 0 0):=(by rw [←hWV];simp [go_sem,hc5,zW_0,zW_1,zW_2,cW_0,cW_1,cW_2,cW_3,cW_4,cW_5,cW_6,cW_7,z5_0,z5_1,z5_2,nl z5_0,nl z5_1,nl z5_2])
   have cV_8:V.cell? ⟨w5.heap.size,0,none⟩=some (.int .i64 s5):=(by rw [←hWV];simp [go_sem,hc5,zW_0,zW_1,zW_2,cW_0,cW_1,cW_2,cW_3,cW_4,cW_5,cW_6,cW_7,z5_0,z5_1,z5_2,nl z5_0,nl z5_1,nl z5_2])
   have cV_9:V.cell? ⟨w5.heap.size,1,none⟩=some (.slice A5 n5 c5):=(by rw [←hWV];simp [go_sem,hc5,zW_0,zW_1,zW_2,cW_0,cW_1,cW_2,cW_3,cW_4,cW_5,cW_6,cW_7,z5_0,z5_1,z5_2,nl z5_0,nl z5_1,nl z5_2])
   have fV_0:∀o,V.frozen? ⟨w.heap.size+1+1,o,none⟩=false:=(by intro o;rw [←hWV];simp [go_sem,hf5,fW_0,zW_2,z5_2,nl z5_2])
   have zV_0:w.heap.size < V.heap.size:=(by rw [←hWV];first|assumption|(simp;done)|(simp;omega))
   have zV_1:w.heap.size+1 < V.heap.size:=(by rw [←hWV];first|assumption|(simp;done)|(simp;omega))
   have zV_2:w.heap.size+1+1 < V.heap.size:=(by rw [←hWV];first|assumption|(simp;done)|(simp;omega))
   have zV_3:w5.heap.size < V.heap.size:=(by rw [←hWV];first|assumption|(simp;done)|(simp;omega))
   have bV:Below w.heap.size w V:=(by rw [←hWV];exact bi)
   have _:=bm bV
   simp only [hWV]
   have bWV:Below W.heap.size W V:=(by rw [←hWV];exact bi)
   have _:=bm bWV
   rw [hWV] at e5
   obtain ⟨b5,hb5'⟩:∃b,w5.heap.size=b:=⟨_,rfl⟩
   rw [hb5'] at cV_8 cV_9 zV_3 ⊢
   clear hWV hb5' hc5 hf5 hb5 hr5 z5_0 z5_1 z5_2 cW_0 cW_1 cW_2 cW_3 cW_4 cW_5 cW_6 cW_7 fW_0 zW_0 zW_1 zW_2 bW
   refine ja3 (fun w'=>Below V.heap.size V w') [7] (by kernel_rfl) ?_
   refine tb 0 (.agg #[.int .i64 s3, .slice A3 n3 c3]) [2] rfl (by kernel_rfl) pk rfl (by intros;go_simp) bq0 ?_
   simp only [ppq]
   refine tb 1 (.agg #[.int .i64 s5, .slice A5 n5 c5]) [2] rfl (by kernel_rfl) pk rfl (by intros;go_simp) bq0 ?_
   simp only [ppq]
   refine tb 3 (.agg #[.int .i64 s4, .slice (some q) n4 c4]) [5] rfl (by kernel_rfl) pk rfl (by intros;go_simp) bq0 ?_
   simp only [ppq]
   refine tb 4 (.agg #[.int .i64 s5, .slice A5 n5 c5]) [5] rfl (by kernel_rfl) pk rfl (by intros;go_simp) bq0 ?_
   simp only [ppq]
   refine rd1 2 (by kernel_rfl) rfl (fun K hK=> ?_)
   go_simp
   go_wp2_with (go_at_call 95;(with_reducible refine mi3 w (jbH HE1.out (HRA.out _ bi) (by with_reducible repeat first|assumption|apply rZ|refine rP ?_ rfl (by simp [go_sem,zV_0])) HL1.out HGL.out HGP.out) (by go_size) fun w6 s6 A6 n6 c6 hr6 hb6 hc6 hf6 z6_0 z6_1 z6_2 _=> ?_))
   have sS6:=qh (bst bq0 hb6)
   refine hK.out _ _ (fun _=>sS6.out) ?_
   clear hK K
   refine rd1 5 (by kernel_rfl) rfl (fun K hK=> ?_)
   go_simp
   go_wp2_with (go_at_call 95;(with_reducible refine mi3 w (jbH HE2.out (HRB.out _ bi) (by with_reducible repeat first|assumption|apply rZ|refine rP ?_ rfl (by simp [go_sem,zV_0])) HL2.out HGL.out HGP.out) (by go_size) fun w7 s7 A7 n7 c7 hr7 hb7 hc7 hf7 z7_0 z7_1 z7_2 _=> ?_))
   have sS7:=qh (bst sS6.out hb7)
   refine hK.out _ _ (fun _=>sS7.out) ?_
   clear hK K
   refine rd1 6 (by kernel_rfl) rfl (fun K hK=> ?_)
   go_simp
   refine hK.out _ _ (fun _=>bi) ?_
   clear hK K
   refine rd1 7 (by kernel_rfl) rfl (fun K hK=> ?_)
   go_simp
   refine hK.out _ _ (fun h=>(h (by decide)).elim) ?_
   clear hK K
   refine ja2 (by kernel_rfl) ?_ _
   go_wp2
   exact bodyPost_ret (v:= .agg #[.int .i64 (s6), .slice (A6) (n6) (c6), .int .i64 (s7), .slice (A7) (n7) (c7)]) (by simp [results,Tryz.results47,go_sem,hc7,z6_2,hc6,zV_2,cV_4,cV_5,cV_6,cV_7]) rfl (jam rfl ⟨(by with_reducible repeat first|assumption|apply rZ|refine rP ?_ rfl (by simp [go_sem,hc7,z6_2,hc6,zV_2,cV_4,cV_5,cV_6,cV_7])),(by with_reducible repeat first|assumption|apply rZ|refine rP ?_ rfl (by simp [go_sem,hc7,z6_2,hc6,zV_2,cV_4,cV_5,cV_6,cV_7]))⟩ bi)
theorem joE (h:Rep w s A n c a) (h':Rep w t B m d b) (hl:Lim a) (hl':Lim b) (hp:b≠0):Calls Tryz.prog 47 #[iv s A n c,iv t B m d] w (jac (Rat.divInt a b) w):=by
 rcases Int.lt_or_le b 0 with h1|h1
 ·have:=jos h h' hl hl' h1 rfl rfl
  rw [Rat.neg_divInt_neg] at this
  exact this
 ·exact jng h h' hl hl' (by omega)
end

theorem jly {x y a b:Nat} (h:x≤B64^a) (h':y≤B64^b):x*y≤B64^(a+b):=by rw [Nat.pow_add];exact Nat.mul_le_mul h h'
theorem jqP {x y a:Nat} (h:x≤B64^a) (h':y≤B64^a):x+y≤B64^(a+1):=by
 rw [Nat.pow_succ]
 have:B64^a*2≤B64^a*B64:=Nat.mul_le_mul_left _ (by rw [ja7];omega)
 omega
theorem jpm {x a:Nat} (h:x≤B64^a):x≤B64^(a+1):=Nat.le_trans h (Nat.pow_le_pow_right ja8 (by omega))
theorem Sz.divInt {m:Nat} {a b:Int} (hb:b≠0) (h:a.natAbs≤B64^m) (h':b.natAbs≤B64^m):Sz m (Rat.divInt a b):=
 ⟨Nat.le_trans (Rq.num_le a b) h,Nat.le_trans (Rq.den_le a hb) h'⟩
theorem Sz.mulN {m k:Nat} {x y:Rat} (h:Sz m x) (h':Sz k y):(x.num*y.num).natAbs≤B64^(m+k):=by rw [Int.natAbs_mul];exact jly h.num h'.num
theorem Sz.mulD {m k:Nat} {x y:Rat} (h:Sz m x) (h':Sz k y):((x.den:Int)*(y.den:Int)).natAbs≤B64^(m+k):=by rw [Int.natAbs_mul];exact jly (by simpa using h.den) (by simpa using h'.den)
theorem Sz.mulND {m k:Nat} {x y:Rat} (h:Sz m x) (h':Sz k y):(x.num*(y.den:Int)).natAbs≤B64^(m+k):=by rw [Int.natAbs_mul];exact jly h.num (by simpa using h'.den)
theorem Sz.mulDN {m k:Nat} {x y:Rat} (h:Sz m x) (h':Sz k y):(y.num*(x.den:Int)).natAbs≤B64^(m+k):=by rw [Nat.add_comm];exact h'.mulND h
theorem Sz.addN {m k:Nat} {x y:Rat} (h:Sz m x) (h':Sz k y):(x.num*(y.den:Int)+y.num*(x.den:Int)).natAbs≤B64^(m+k+1):=
 Nat.le_trans (Int.natAbs_add_le _ _) (jqP (h.mulND h') (h.mulDN h'))
theorem jdx (x y:Rat):(x.den:Int)*(y.den:Int)≠0:=Int.mul_ne_zero (Rq.den_ne x) (Rq.den_ne y)
theorem Sz.mul {m k:Nat} {x y:Rat} (h:Sz m x) (h':Sz k y):Sz (m+k) (x*y):=by
 rw [Rq.mul_eq];exact Sz.divInt (jdx x y) (h.mulN h') (h.mulD h')
theorem Sz.add {m k:Nat} {x y:Rat} (h:Sz m x) (h':Sz k y):Sz (m+k+1) (x+y):=by
 rw [Rq.add_eq];exact Sz.divInt (jdx x y) (h.addN h') (jpm (h.mulD h'))
theorem Sz.sub {m k:Nat} {x y:Rat} (h:Sz m x) (h':Sz k y):Sz (m+k+1) (x - y):=by
 rw [Rq.sub_eq];exact h.add h'.neg
theorem Sz.inv {m:Nat} {x:Rat} (h:Sz m x) (hx:x≠0):Sz m x⁻¹:=by
 rw [Rq.inv_eq];exact Sz.divInt (Rq.ne_num hx) (by simpa using h.den) h.num
theorem Sz.div {m k:Nat} {x y:Rat} (h:Sz m x) (h':Sz k y) (hy:y≠0):Sz (m+k) (x / y):=by
 rw [Rq.div_eq];exact h.mul (h'.inv hy)

theorem jbT {s t a b:Int} {x:Rat} {A B:Option Addr} {n c m d:Nat} {w:World} (hx:Rat.divInt a b=x) (h:Rep w s A n c a) (h':Rep w t B m d b) (hl:Lim a) (hl':Lim b) (hb:b≠0):
  Calls Tryz.prog 47 #[iv s A n c,iv t B m d] w (jac x w):=hx ▸ joE h h' hl hl' hb

section
variable {s t u v:Int} {A B C D:Option Addr} {n c m d i k j l:Nat} {w:World} {x y:Rat} {p q:Nat}
theorem joo (h:RepF w s A n c t B m d x) (hs:Sz p x) (hp:p < 100000) (hx:x≠0):Calls Tryz.prog 112 #[fv s A n c t B m d] w (jac x⁻¹ w):=by
 have H:=qh h
 have HL1:=qh (hs.limN hp)
 have HL2:=qh (hs.limD hp)
 have HX:=qh (Rq.ne_num hx)
 have HE:=qh (Rq.inv_eq x).symm
 clear h hs hp hx
 go_enter Tryz.func112,Tryz.ntmps112
 go_wp2_with (go_at_call 47;(with_reducible refine mf2 w (jbT HE.out (H.out.den.below bi) (H.out.num.below bi) HL2.out HL1.out HX.out) (by go_size) fun w1 s1 A1 n1 c1 t1 B1 m1 d1 hr1 hq1 hb1 hc1 hf1 z1_0 z1_1 _=> ?_))
 exact bodyPost_ret (v:= .agg #[.int .i64 (s1), .slice (A1) (n1) (c1), .int .i64 (t1), .slice (B1) (m1) (d1)]) (by simp [results,Tryz.results112,go_sem,hc1,z1_0,z1_1]) rfl (jam rfl ⟨(by with_reducible repeat first|assumption|apply rZ|refine rP ?_ rfl (by simp [go_sem,hc1,z1_0,z1_1])),(by with_reducible repeat first|assumption|apply rZ|refine rP ?_ rfl (by simp [go_sem,hc1,z1_0,z1_1]))⟩ bi)

theorem joJ (h:RepF w s A n c t B m d x) (h':RepF w u C i k v D j l y) (hs:Sz p x) (hs':Sz q y) (hpq:p+q < 100000):
  Calls Tryz.prog 60 #[fv s A n c t B m d,fv u C i k v D j l] w (jac (x*y) w):=by
 have HA:=qh h
 have HB:=qh h'
 have L1:=qh (hs.limN (by omega))
 have L2:=qh (hs.limD (by omega))
 have L3:=qh (hs'.limN (by omega))
 have L4:=qh (hs'.limD (by omega))
 have L5:=qh (jb6 (hs.mulN hs') hpq)
 have L6:=qh (jb6 (hs.mulD hs') hpq)
 have HE:=qh (Rq.mul_eq x y).symm
 have HN:=qh (jdx x y)
 obtain ⟨z,hz⟩:∃z,x*y=z:=⟨_,rfl⟩
 rw [hz] at HE ⊢
 clear h h' hs hs' hpq hz
 go_enter Tryz.func60,Tryz.ntmps60
 go_wp2
 refine ja3 (fun w'=>Below (((w.alloc (.cells #[.int .i64 s, .slice A n c, .int .i64 t, .slice B m d] 76)).alloc (.cells #[.int .i64 u, .slice C i k, .int .i64 v, .slice D j l] 76)).alloc (.cells #[.int .i64 0, .slice none 0 0, .int .i64 0, .slice none 0 0] 76)).heap.size (((w.alloc (.cells #[.int .i64 s, .slice A n c, .int .i64 t, .slice B m d] 76)).alloc (.cells #[.int .i64 u, .slice C i k, .int .i64 v, .slice D j l] 76)).alloc (.cells #[.int .i64 0, .slice none 0 0, .int .i64 0, .slice none 0 0] 76)) w') [11] (by kernel_rfl) ?_
 refine tb 0 (.pointer (some ⟨w.heap.size,0,none⟩)) [1] rfl (by kernel_rfl) pk rfl (by intros;go_simp) bq0 ?_
 simp only [ppq]
 refine tb 1 (.agg #[.int .i64 s, .slice A n c]) [4] rfl (by kernel_rfl) pk rfl (by intros;go_simp) bq0 ?_
 simp only [ppq]
 refine tb 2 (.pointer (some ⟨w.heap.size+1,0,none⟩)) [3] rfl (by kernel_rfl) pk rfl (by intros;go_simp) bq0 ?_
 simp only [ppq]
 refine tb 3 (.agg #[.int .i64 u, .slice C i k]) [4] rfl (by kernel_rfl) pk rfl (by intros;go_simp) bq0 ?_
 simp only [ppq]
 refine tb 5 (.pointer (some ⟨w.heap.size,2,none⟩)) [6] rfl (by kernel_rfl) pk rfl (by intros;go_simp) bq0 ?_
 simp only [ppq]
 refine tb 6 (.agg #[.int .i64 t, .slice B m d]) [9] rfl (by kernel_rfl) pk rfl (by intros;go_simp) bq0 ?_
 simp only [ppq]
 refine tb 7 (.pointer (some ⟨w.heap.size+1,2,none⟩)) [8] rfl (by kernel_rfl) pk rfl (by intros;go_simp) bq0 ?_
 simp only [ppq]
 refine tb 8 (.agg #[.int .i64 v, .slice D j l]) [9] rfl (by kernel_rfl) pk rfl (by intros;go_simp) bq0 ?_
 simp only [ppq]
 refine rd1 4 (by kernel_rfl) rfl (fun K hK=> ?_)
 go_simp
 go_wp2_with (go_at_call 78;(with_reducible refine mi3 w (jbv (HA.out.num.below bi) (HB.out.num.below bi) L1.out L3.out) (by go_size) fun w1 s1 A1 n1 c1 hr1 hb1 hc1 hf1 z1_0 z1_1 z1_2 _=> ?_))
 have sS1:=qh (bst bq0 hb1)
 refine hK.out _ _ (fun _=>sS1.out) ?_
 clear hK K
 refine rd1 9 (by kernel_rfl) rfl (fun K hK=> ?_)
 go_simp
 go_wp2_with (go_at_call 78;(with_reducible refine mi3 w (jbv (HA.out.den.below bi) (HB.out.den.below bi) L2.out L4.out) (by go_size) fun w2 s2 A2 n2 c2 hr2 hb2 hc2 hf2 z2_0 z2_1 z2_2 _=> ?_))
 have sS2:=qh (bst sS1.out hb2)
 refine hK.out _ _ (fun _=>sS2.out) ?_
 clear hK K
 refine rd1 10 (by kernel_rfl) rfl (fun K hK=> ?_)
 go_simp
 go_wp2_with (go_at_call 47;(with_reducible refine mf3 w (jbT HE.out (by with_reducible repeat first|assumption|apply rZ|refine rP ?_ rfl (by simp [go_sem,hc2])) (by with_reducible repeat first|assumption|apply rZ|refine rP ?_ rfl (by simp [go_sem,hc2])) L5.out L6.out HN.out) (by go_size) fun w3 s3 A3 n3 c3 t3 B3 m3 d3 hr3 hq3 hb3 hc3 hf3 z3_0 z3_1 z3_2 _=> ?_))
 have sS3:=qh (bst sS2.out hb3)
 refine hK.out _ _ (fun _=>sS3.out) ?_
 clear hK K
 refine rd1 11 (by kernel_rfl) rfl (fun K hK=> ?_)
 go_simp
 refine hK.out _ _ (fun h=>(h (by decide)).elim) ?_
 clear hK K
 refine ja2 (by kernel_rfl) ?_ _
 go_wp2
 exact bodyPost_ret (v:= .agg #[.int .i64 (s3), .slice (A3) (n3) (c3), .int .i64 (t3), .slice (B3) (m3) (d3)]) (by simp [results,Tryz.results60,go_sem,hc3,z2_2,hc2,z1_2,hc1,z2_0,z2_1,z1_0,z1_1]) rfl (jam rfl ⟨(by with_reducible repeat first|assumption|apply rZ|refine rP ?_ rfl (by simp [go_sem,hc3,z2_2,hc2,z1_2,hc1,z2_0,z2_1,z1_0,z1_1])),(by with_reducible repeat first|assumption|apply rZ|refine rP ?_ rfl (by simp [go_sem,hc3,z2_2,hc2,z1_2,hc1,z2_0,z2_1,z1_0,z1_1]))⟩ bi)

theorem jmV (h:RepF w s A n c t B m d x) (h':RepF w u C i k v D j l y) (hs:Sz p x) (hs':Sz q y) (hpq:p+q < 100000):
  Calls Tryz.prog 33 #[fv s A n c t B m d,fv u C i k v D j l] w fun e w'=>e= .returned (.int .i64 (Rq.cmpQ x y))∧Below w.heap.size w w':=by
 have HA:=qh h
 have HB:=qh h'
 have L1:=qh (hs.limN (by omega))
 have L2:=qh (hs.limD (by omega))
 have L3:=qh (hs'.limN (by omega))
 have L4:=qh (hs'.limD (by omega))
 have L5:=qh (jb6 (hs.mulND hs') hpq)
 have L6:=qh (jb6 (hs.mulDN hs') hpq)
 rw [←Rq.cmp_eq x y]
 clear h h' hs hs' hpq
 go_enter Tryz.func33,Tryz.ntmps33
 go_wp2
 refine ja3 (fun w'=>Below ((w.alloc (.cells #[.int .i64 s, .slice A n c, .int .i64 t, .slice B m d] 76)).alloc (.cells #[.int .i64 u, .slice C i k, .int .i64 v, .slice D j l] 76)).heap.size ((w.alloc (.cells #[.int .i64 s, .slice A n c, .int .i64 t, .slice B m d] 76)).alloc (.cells #[.int .i64 u, .slice C i k, .int .i64 v, .slice D j l] 76)) w') [11] (by kernel_rfl) ?_
 refine tb 0 (.pointer (some ⟨w.heap.size,0,none⟩)) [1] rfl (by kernel_rfl) pk rfl (by intros;go_simp) bq0 ?_
 simp only [ppq]
 refine tb 1 (.agg #[.int .i64 s, .slice A n c]) [4] rfl (by kernel_rfl) pk rfl (by intros;go_simp) bq0 ?_
 simp only [ppq]
 refine tb 2 (.pointer (some ⟨w.heap.size+1,2,none⟩)) [3] rfl (by kernel_rfl) pk rfl (by intros;go_simp) bq0 ?_
 simp only [ppq]
 refine tb 3 (.agg #[.int .i64 v, .slice D j l]) [4] rfl (by kernel_rfl) pk rfl (by intros;go_simp) bq0 ?_
 simp only [ppq]
 refine tb 5 (.pointer (some ⟨w.heap.size+1,0,none⟩)) [6] rfl (by kernel_rfl) pk rfl (by intros;go_simp) bq0 ?_
 simp only [ppq]
 refine tb 6 (.agg #[.int .i64 u, .slice C i k]) [9] rfl (by kernel_rfl) pk rfl (by intros;go_simp) bq0 ?_
 simp only [ppq]
 refine tb 7 (.pointer (some ⟨w.heap.size,2,none⟩)) [8] rfl (by kernel_rfl) pk rfl (by intros;go_simp) bq0 ?_
 simp only [ppq]
 refine tb 8 (.agg #[.int .i64 t, .slice B m d]) [9] rfl (by kernel_rfl) pk rfl (by intros;go_simp) bq0 ?_
 simp only [ppq]
 refine rd1 4 (by kernel_rfl) rfl (fun K hK=> ?_)
 go_simp
 go_wp2_with (go_at_call 78;(with_reducible refine mi2 w (jbv (HA.out.num.below bi) (HB.out.den.below bi) L1.out L4.out) (by go_size) fun w1 s1 A1 n1 c1 hr1 hb1 hc1 hf1 z1_0 z1_1 _=> ?_))
 have sS1:=qh (bst bq0 hb1)
 refine hK.out _ _ (fun _=>sS1.out) ?_
 clear hK K
 refine rd1 9 (by kernel_rfl) rfl (fun K hK=> ?_)
 go_simp
 go_wp2_with (go_at_call 78;(with_reducible refine mi2 w (jbv (HB.out.num.below bi) (HA.out.den.below bi) L3.out L2.out) (by go_size) fun w2 s2 A2 n2 c2 hr2 hb2 hc2 hf2 z2_0 z2_1 _=> ?_))
 have sS2:=qh (bst sS1.out hb2)
 refine hK.out _ _ (fun _=>sS2.out) ?_
 clear hK K
 refine rd1 10 (by kernel_rfl) rfl (fun K hK=> ?_)
 go_simp
 go_wp2_with (go_at_call 79;(with_reducible refine mo2 w (jpu (by with_reducible repeat first|assumption|apply rZ|refine rP ?_ rfl (by simp [go_sem,hc2])) (by with_reducible repeat first|assumption|apply rZ|refine rP ?_ rfl (by simp [go_sem,hc2])) L5.out L6.out) (by go_size) fun w3 hb3 hc3 hf3 z3_0 z3_1 _=> ?_))
 have sS3:=qh (bst sS2.out hb3)
 refine hK.out _ _ (fun _=>sS3.out) ?_
 clear hK K
 refine rd1 11 (by kernel_rfl) rfl (fun K hK=> ?_)
 go_simp
 refine hK.out _ _ (fun _=>bi) ?_
 clear hK K
 refine ja2 (by kernel_rfl) ?_ _
 go_wp2
 go_ret
 exact ⟨rfl,bi⟩
end

theorem jaR {w:World} {s t:Int} {A B:Option Addr} {n c m d:Nat} {x:Rat} {g:Bool} (hg:decide (x.den=1)=g) (h:RepF w s A n c t B m d x):Calls Tryz.prog 108 #[fv s A n c t B m d] w fun e w'=>e= .returned (.bool g)∧Below w.heap.size w w':=hg ▸ jiG h
theorem jba {w:World} {s a:Int} {A:Option Addr} {n c:Nat} {x:Rat} (hx:(a:Rat)=x) (h:Rep w s A n c a):Calls Tryz.prog 50 #[iv s A n c] w (jac x w):=hx ▸ jho h

section
variable {s t u v:Int} {A B C D:Option Addr} {n c m d i k j l:Nat} {w:World} {x y:Rat} {p q:Nat}
theorem jk3 (h:RepF w s A n c t B m d x) (h':RepF w u C i k v D j l y) (hs:Sz p x) (hs':Sz q y) (hpq:p+q+1 < 100000) (hx:x.den=1) (hy:y.den=1):
  Calls Tryz.prog 66 #[fv s A n c t B m d,fv u C i k v D j l] w (jac (x+y) w):=by
 have HA:=qh h
 have HB:=qh h'
 have L1:=qh (hs.limN (by omega))
 have L2:=qh (hs.limD (by omega))
 have L3:=qh (hs'.limN (by omega))
 have L4:=qh (hs'.limD (by omega))
 have L5:=qh (jb6 (hs.mulND hs') (by omega))
 have L6:=qh (jb6 (hs.mulDN hs') (by omega))
 have L7:=qh (jb6 (hs.mulD hs') (by omega))
 have L8:=qh (jb6 (hs.addN hs') hpq)
 have HE:=qh (Rq.add_eq x y).symm
 have HN:=qh (jdx x y)
 have HX:=qh (show decide (x.den=1)=true by simp [hx])
 have HY:=qh (show decide (y.den=1)=true by simp [hy])
 have HW:=qh (Rq.add_whole hx hy).symm
 obtain ⟨z,hz⟩:∃z,x+y=z:=⟨_,rfl⟩
 rw [hz] at HE HW ⊢
 clear h h' hs hs' hpq hx hy hz
 go_enter Tryz.func66,Tryz.ntmps66
 go_wp2_with (first
  | (go_at_call 108;(with_reducible show Calls _ _ #[fv s A n c t B m d] _ _);(with_reducible refine mo3 w (jaR HX.out (HA.out.below bi)) (by go_size) fun w1 hb1 hc1 hf1 z1_0 z1_1 z1_2 _=> ?_))
  | (go_at_call 108;(with_reducible show Calls _ _ #[fv u C i k v D j l] _ _);(with_reducible refine mo3 w (jaR HY.out (HB.out.below bi)) (by go_size) fun w2 hb2 hc2 hf2 z2_0 z2_1 z2_2 _=> ?_))
  | (go_at_call 103;(with_reducible refine mi3 w (jcT (HA.out.num.below bi) (HB.out.num.below bi) L1.out L3.out) (by go_size) fun w4 s4 A4 n4 c4 hr4 hb4 hc4 hf4 z4_0 z4_1 z4_2 _=> ?_))
  | (go_at_call 50;(with_reducible refine mf3 w (jba HW.out hr4) (by go_size) fun w3 s3 A3 n3 c3 t3 B3 m3 d3 hr3 hq3 hb3 hc3 hf3 z3_0 z3_1 z3_2 _=> ?_)))
 exact bodyPost_ret (v:= .agg #[.int .i64 (s3), .slice (A3) (n3) (c3), .int .i64 (t3), .slice (B3) (m3) (d3)]) (by simp [results,Tryz.results66,go_sem,hc4,z4_2,hc3,z2_2,hc2,z1_2,hc1,z2_0,z2_1,z1_0,z1_1]) rfl (jam rfl ⟨(by with_reducible repeat first|assumption|apply rZ|refine rP ?_ rfl (by simp [go_sem,hc4,z4_2,hc3,z2_2,hc2,z1_2,hc1,z2_0,z2_1,z1_0,z1_1])),(by with_reducible repeat first|assumption|apply rZ|refine rP ?_ rfl (by simp [go_sem,hc4,z4_2,hc3,z2_2,hc2,z1_2,hc1,z2_0,z2_1,z1_0,z1_1]))⟩ bi)

theorem jkp (h:RepF w s A n c t B m d x) (h':RepF w u C i k v D j l y) (hs:Sz p x) (hs':Sz q y) (hpq:p+q+1 < 100000) (hx:x.den≠1):
  Calls Tryz.prog 66 #[fv s A n c t B m d,fv u C i k v D j l] w (jac (x+y) w):=by
 have HA:=qh h
 have HB:=qh h'
 have L1:=qh (hs.limN (by omega))
 have L2:=qh (hs.limD (by omega))
 have L3:=qh (hs'.limN (by omega))
 have L4:=qh (hs'.limD (by omega))
 have L5:=qh (jb6 (hs.mulND hs') (by omega))
 have L6:=qh (jb6 (hs.mulDN hs') (by omega))
 have L7:=qh (jb6 (hs.mulD hs') (by omega))
 have L8:=qh (jb6 (hs.addN hs') hpq)
 have HE:=qh (Rq.add_eq x y).symm
 have HN:=qh (jdx x y)
 have HX:=qh (show decide (x.den=1)=false by simp [hx])
 obtain ⟨z,hz⟩:∃z,x+y=z:=⟨_,rfl⟩
 rw [hz] at HE ⊢
 clear h h' hs hs' hpq hx hz
 go_enter Tryz.func66,Tryz.ntmps66
 go_wp2_with (go_at_call 108;(with_reducible refine mo3 w (jaR HX.out (HA.out.below bi)) (by go_size) fun w1 hb1 hc1 hf1 z1_0 z1_1 z1_2 _=> ?_))
 refine ja3 (fun w'=>Below w1.heap.size w1 w') [17] (by kernel_rfl) ?_
 refine tb 0 (.pointer (some ⟨w.heap.size,0,none⟩)) [1] rfl (by kernel_rfl) pk rfl (by intros;go_simp) bq0 ?_
 simp only [ppq]
 refine tb 1 (.agg #[.int .i64 s, .slice A n c]) [4] rfl (by kernel_rfl) pk rfl (by intros;go_simp) bq0 ?_
 simp only [ppq]
 refine tb 2 (.pointer (some ⟨w.heap.size+1,2,none⟩)) [3] rfl (by kernel_rfl) pk rfl (by intros;go_simp) bq0 ?_
 simp only [ppq]
 refine tb 3 (.agg #[.int .i64 v, .slice D j l]) [4] rfl (by kernel_rfl) pk rfl (by intros;go_simp) bq0 ?_
 simp only [ppq]
 refine tb 5 (.pointer (some ⟨w.heap.size+1,0,none⟩)) [6] rfl (by kernel_rfl) pk rfl (by intros;go_simp) bq0 ?_
 simp only [ppq]
 refine tb 6 (.agg #[.int .i64 u, .slice C i k]) [9] rfl (by kernel_rfl) pk rfl (by intros;go_simp) bq0 ?_
 simp only [ppq]
 refine tb 7 (.pointer (some ⟨w.heap.size,2,none⟩)) [8] rfl (by kernel_rfl) pk rfl (by intros;go_simp) bq0 ?_
 simp only [ppq]
 refine tb 8 (.agg #[.int .i64 t, .slice B m d]) [9] rfl (by kernel_rfl) pk rfl (by intros;go_simp) bq0 ?_
 simp only [ppq]
 refine tb 11 (.pointer (some ⟨w.heap.size,2,none⟩)) [12] rfl (by kernel_rfl) pk rfl (by intros;go_simp) bq0 ?_
 simp only [ppq]
 refine tb 12 (.agg #[.int .i64 t, .slice B m d]) [15] rfl (by kernel_rfl) pk rfl (by intros;go_simp) bq0 ?_
 simp only [ppq]
 refine tb 13 (.pointer (some ⟨w.heap.size+1,2,none⟩)) [14] rfl (by kernel_rfl) pk rfl (by intros;go_simp) bq0 ?_
 simp only [ppq]
 refine tb 14 (.agg #[.int .i64 v, .slice D j l]) [15] rfl (by kernel_rfl) pk rfl (by intros;go_simp) bq0 ?_
 simp only [ppq]
 refine rd1 4 (by kernel_rfl) rfl (fun K hK=> ?_)
 go_simp
 go_wp2_with (go_at_call 78;(with_reducible refine mi3 w (jbv (HA.out.num.below bi) (HB.out.den.below bi) L1.out L4.out) (by go_size) fun w3 s3 A3 n3 c3 hr3 hb3 hc3 hf3 z3_0 z3_1 z3_2 _=> ?_))
 have sS3:=qh (bst bq0 hb3)
 refine hK.out _ _ (fun _=>sS3.out) ?_
 clear hK K
 refine rd1 9 (by kernel_rfl) rfl (fun K hK=> ?_)
 go_simp
 go_wp2_with (go_at_call 78;(with_reducible refine mi3 w (jbv (HB.out.num.below bi) (HA.out.den.below bi) L3.out L2.out) (by go_size) fun w4 s4 A4 n4 c4 hr4 hb4 hc4 hf4 z4_0 z4_1 z4_2 _=> ?_))
 have sS4:=qh (bst sS3.out hb4)
 refine hK.out _ _ (fun _=>sS4.out) ?_
 clear hK K
 refine rd1 10 (by kernel_rfl) rfl (fun K hK=> ?_)
 go_simp
 go_wp2_with (go_at_call 103;(with_reducible refine mi3 w (jcT (by with_reducible repeat first|assumption|apply rZ|refine rP ?_ rfl (by simp [go_sem,hc4])) (by with_reducible repeat first|assumption|apply rZ|refine rP ?_ rfl (by simp [go_sem,hc4])) L5.out L6.out) (by go_size) fun w5 s5 A5 n5 c5 hr5 hb5 hc5 hf5 z5_0 z5_1 z5_2 _=> ?_))
 have sS5:=qh (bst sS4.out hb5)
 refine hK.out _ _ (fun _=>sS5.out) ?_
 clear hK K
 refine rd1 15 (by kernel_rfl) rfl (fun K hK=> ?_)
 go_simp
 go_wp2_with (go_at_call 78;(with_reducible refine mi3 w (jbv (HA.out.den.below bi) (HB.out.den.below bi) L2.out L4.out) (by go_size) fun w6 s6 A6 n6 c6 hr6 hb6 hc6 hf6 z6_0 z6_1 z6_2 _=> ?_))
 have sS6:=qh (bst sS5.out hb6)
 refine hK.out _ _ (fun _=>sS6.out) ?_
 clear hK K
 refine rd1 16 (by kernel_rfl) rfl (fun K hK=> ?_)
 go_simp
 go_wp2_with (go_at_call 47;(with_reducible refine mf3 w (jbT HE.out (by with_reducible repeat first|assumption|apply rZ|refine rP ?_ rfl (by simp [go_sem,hc6])) (by with_reducible repeat first|assumption|apply rZ|refine rP ?_ rfl (by simp [go_sem,hc6])) L8.out L7.out HN.out) (by go_size) fun w7 s7 A7 n7 c7 t7 B7 m7 d7 hr7 hq7 hb7 hc7 hf7 z7_0 z7_1 z7_2 _=> ?_))
 have sS7:=qh (bst sS6.out hb7)
 refine hK.out _ _ (fun _=>sS7.out) ?_
 clear hK K
 refine rd1 17 (by kernel_rfl) rfl (fun K hK=> ?_)
 go_simp
 refine hK.out _ _ (fun h=>(h (by decide)).elim) ?_
 clear hK K
 refine ja2 (by kernel_rfl) ?_ _
 go_wp2
 exact bodyPost_ret (v:= .agg #[.int .i64 (s7), .slice (A7) (n7) (c7), .int .i64 (t7), .slice (B7) (m7) (d7)]) (by simp [results,Tryz.results66,go_sem,hc7,z6_2,hc6,z5_2,hc5,z4_2,hc4,z3_2,hc3,z1_2,hc1]) rfl (jam rfl ⟨(by with_reducible repeat first|assumption|apply rZ|refine rP ?_ rfl (by simp [go_sem,hc7,z6_2,hc6,z5_2,hc5,z4_2,hc4,z3_2,hc3,z1_2,hc1])),(by with_reducible repeat first|assumption|apply rZ|refine rP ?_ rfl (by simp [go_sem,hc7,z6_2,hc6,z5_2,hc5,z4_2,hc4,z3_2,hc3,z1_2,hc1]))⟩ bi)
theorem jjT (h:RepF w s A n c t B m d x) (h':RepF w u C i k v D j l y) (hs:Sz p x) (hs':Sz q y) (hpq:p+q+1 < 100000) (hx:x.den=1) (hy:y.den≠1):
  Calls Tryz.prog 66 #[fv s A n c t B m d,fv u C i k v D j l] w (jac (x+y) w):=by
 have HA:=qh h
 have HB:=qh h'
 have L1:=qh (hs.limN (by omega))
 have L2:=qh (hs.limD (by omega))
 have L3:=qh (hs'.limN (by omega))
 have L4:=qh (hs'.limD (by omega))
 have L5:=qh (jb6 (hs.mulND hs') (by omega))
 have L6:=qh (jb6 (hs.mulDN hs') (by omega))
 have L7:=qh (jb6 (hs.mulD hs') (by omega))
 have L8:=qh (jb6 (hs.addN hs') hpq)
 have HE:=qh (Rq.add_eq x y).symm
 have HN:=qh (jdx x y)
 have HX:=qh (show decide (x.den=1)=true by simp [hx])
 have HY:=qh (show decide (y.den=1)=false by simp [hy])
 obtain ⟨z,hz⟩:∃z,x+y=z:=⟨_,rfl⟩
 rw [hz] at HE ⊢
 clear h h' hs hs' hpq hx hy hz
 go_enter Tryz.func66,Tryz.ntmps66
 go_wp2_with (first
  | (go_at_call 108;(with_reducible show Calls _ _ #[fv s A n c t B m d] _ _);(with_reducible refine mo3 w (jaR HX.out (HA.out.below bi)) (by go_size) fun w1 hb1 hc1 hf1 z1_0 z1_1 z1_2 _=> ?_))
  | (go_at_call 108;(with_reducible show Calls _ _ #[fv u C i k v D j l] _ _);(with_reducible refine mo3 w (jaR HY.out (HB.out.below bi)) (by go_size) fun w2 hb2 hc2 hf2 z2_0 z2_1 z2_2 _=> ?_)))
 refine ja3 (fun w'=>Below w2.heap.size w2 w') [17] (by kernel_rfl) ?_
 refine tb 0 (.pointer (some ⟨w.heap.size,0,none⟩)) [1] rfl (by kernel_rfl) pk rfl (by intros;go_simp) bq0 ?_
 simp only [ppq]
 refine tb 1 (.agg #[.int .i64 s, .slice A n c]) [4] rfl (by kernel_rfl) pk rfl (by intros;go_simp) bq0 ?_
 simp only [ppq]
 refine tb 2 (.pointer (some ⟨w.heap.size+1,2,none⟩)) [3] rfl (by kernel_rfl) pk rfl (by intros;go_simp) bq0 ?_
 simp only [ppq]
 refine tb 3 (.agg #[.int .i64 v, .slice D j l]) [4] rfl (by kernel_rfl) pk rfl (by intros;go_simp) bq0 ?_
 simp only [ppq]
 refine tb 5 (.pointer (some ⟨w.heap.size+1,0,none⟩)) [6] rfl (by kernel_rfl) pk rfl (by intros;go_simp) bq0 ?_
 simp only [ppq]
 refine tb 6 (.agg #[.int .i64 u, .slice C i k]) [9] rfl (by kernel_rfl) pk rfl (by intros;go_simp) bq0 ?_
 simp only [ppq]
 refine tb 7 (.pointer (some ⟨w.heap.size,2,none⟩)) [8] rfl (by kernel_rfl) pk rfl (by intros;go_simp) bq0 ?_
 simp only [ppq]
 refine tb 8 (.agg #[.int .i64 t, .slice B m d]) [9] rfl (by kernel_rfl) pk rfl (by intros;go_simp) bq0 ?_
 simp only [ppq]
 refine tb 11 (.pointer (some ⟨w.heap.size,2,none⟩)) [12] rfl (by kernel_rfl) pk rfl (by intros;go_simp) bq0 ?_
 simp only [ppq]
 refine tb 12 (.agg #[.int .i64 t, .slice B m d]) [15] rfl (by kernel_rfl) pk rfl (by intros;go_simp) bq0 ?_
 simp only [ppq]
 refine tb 13 (.pointer (some ⟨w.heap.size+1,2,none⟩)) [14] rfl (by kernel_rfl) pk rfl (by intros;go_simp) bq0 ?_
 simp only [ppq]
 refine tb 14 (.agg #[.int .i64 v, .slice D j l]) [15] rfl (by kernel_rfl) pk rfl (by intros;go_simp) bq0 ?_
 simp only [ppq]
 refine rd1 4 (by kernel_rfl) rfl (fun K hK=> ?_)
 go_simp
 go_wp2_with (go_at_call 78;(with_reducible refine mi3 w (jbv (HA.out.num.below bi) (HB.out.den.below bi) L1.out L4.out) (by go_size) fun w3 s3 A3 n3 c3 hr3 hb3 hc3 hf3 z3_0 z3_1 z3_2 _=> ?_))
 have sS3:=qh (bst bq0 hb3)
 refine hK.out _ _ (fun _=>sS3.out) ?_
 clear hK K
 refine rd1 9 (by kernel_rfl) rfl (fun K hK=> ?_)
 go_simp
 go_wp2_with (go_at_call 78;(with_reducible refine mi3 w (jbv (HB.out.num.below bi) (HA.out.den.below bi) L3.out L2.out) (by go_size) fun w4 s4 A4 n4 c4 hr4 hb4 hc4 hf4 z4_0 z4_1 z4_2 _=> ?_))
 have sS4:=qh (bst sS3.out hb4)
 refine hK.out _ _ (fun _=>sS4.out) ?_
 clear hK K
 refine rd1 10 (by kernel_rfl) rfl (fun K hK=> ?_)
 go_simp
 go_wp2_with (go_at_call 103;(with_reducible refine mi3 w (jcT (by with_reducible repeat first|assumption|apply rZ|refine rP ?_ rfl (by simp [go_sem,hc4])) (by with_reducible repeat first|assumption|apply rZ|refine rP ?_ rfl (by simp [go_sem,hc4])) L5.out L6.out) (by go_size) fun w5 s5 A5 n5 c5 hr5 hb5 hc5 hf5 z5_0 z5_1 z5_2 _=> ?_))
 have sS5:=qh (bst sS4.out hb5)
 refine hK.out _ _ (fun _=>sS5.out) ?_
 clear hK K
 refine rd1 15 (by kernel_rfl) rfl (fun K hK=> ?_)
 go_simp
 go_wp2_with (go_at_call 78;(with_reducible refine mi3 w (jbv (HA.out.den.below bi) (HB.out.den.below bi) L2.out L4.out) (by go_size) fun w6 s6 A6 n6 c6 hr6 hb6 hc6 hf6 z6_0 z6_1 z6_2 _=> ?_))
 have sS6:=qh (bst sS5.out hb6)
 refine hK.out _ _ (fun _=>sS6.out) ?_
 clear hK K
 refine rd1 16 (by kernel_rfl) rfl (fun K hK=> ?_)
 go_simp
 go_wp2_with (go_at_call 47;(with_reducible refine mf3 w (jbT HE.out (by with_reducible repeat first|assumption|apply rZ|refine rP ?_ rfl (by simp [go_sem,hc6])) (by with_reducible repeat first|assumption|apply rZ|refine rP ?_ rfl (by simp [go_sem,hc6])) L8.out L7.out HN.out) (by go_size) fun w7 s7 A7 n7 c7 t7 B7 m7 d7 hr7 hq7 hb7 hc7 hf7 z7_0 z7_1 z7_2 _=> ?_))
 have sS7:=qh (bst sS6.out hb7)
 refine hK.out _ _ (fun _=>sS7.out) ?_
 clear hK K
 refine rd1 17 (by kernel_rfl) rfl (fun K hK=> ?_)
 go_simp
 refine hK.out _ _ (fun h=>(h (by decide)).elim) ?_
 clear hK K
 refine ja2 (by kernel_rfl) ?_ _
 go_wp2
 exact bodyPost_ret (v:= .agg #[.int .i64 (s7), .slice (A7) (n7) (c7), .int .i64 (t7), .slice (B7) (m7) (d7)]) (by simp [results,Tryz.results66,go_sem,hc2,z2_2,hc7,z6_2,hc6,z5_2,hc5,z4_2,hc4,z3_2,hc3,z1_2,hc1]) rfl (jam rfl ⟨(by with_reducible repeat first|assumption|apply rZ|refine rP ?_ rfl (by simp [go_sem,hc2,z2_2,hc7,z6_2,hc6,z5_2,hc5,z4_2,hc4,z3_2,hc3,z1_2,hc1])),(by with_reducible repeat first|assumption|apply rZ|refine rP ?_ rfl (by simp [go_sem,hc2,z2_2,hc7,z6_2,hc6,z5_2,hc5,z4_2,hc4,z3_2,hc3,z1_2,hc1]))⟩ bi)
theorem joi (h:RepF w s A n c t B m d x) (h':RepF w u C i k v D j l y) (hs:Sz p x) (hs':Sz q y) (hpq:p+q+1 < 100000):
  Calls Tryz.prog 66 #[fv s A n c t B m d,fv u C i k v D j l] w (jac (x+y) w):=by
 by_cases hx:x.den=1
 ·by_cases hy:y.den=1
  ·exact jk3 h h' hs hs' hpq hx hy
  ·exact jjT h h' hs hs' hpq hx hy
 ·exact jkp h h' hs hs' hpq hx
end
end Go.Proofs.YtmaldbpmnneaaaaGreatDoor
