/- Parts. -/
import Derived.Test.YthciialjockjmaaGreatDoorFc
set_option linter.all false
set_option maxRecDepth 100000
set_option maxHeartbeats 8000000
namespace Go.Proofs.YthciialjockjmaaGreatDoor
open Go Go.RowKit

theorem jjX {x y a b:Nat} (h:x≤B64^a) (h':y≤B64^b):x*y≤B64^(a+b):=by rw [Nat.pow_add];exact Nat.mul_le_mul h h'
theorem jpR {x y a:Nat} (h:x≤B64^a) (h':y≤B64^a):x+y≤B64^(a+1):=by
 rw [Nat.pow_succ]
 have:B64^a*2≤B64^a*B64:=Nat.mul_le_mul_left _ (by rw [ja8];omega)
 omega
theorem jor {x a:Nat} (h:x≤B64^a):x≤B64^(a+1):=Nat.le_trans h (Nat.pow_le_pow_right ja9 (by omega))
theorem Sz.divInt {m:Nat} {a b:Int} (hb:b≠0) (h:a.natAbs≤B64^m) (h':b.natAbs≤B64^m):Sz m (Rat.divInt a b):=
 ⟨Nat.le_trans (Rq.num_le a b) h,Nat.le_trans (Rq.den_le a hb) h'⟩
theorem Sz.mulN {m k:Nat} {x y:Rat} (h:Sz m x) (h':Sz k y):(x.num*y.num).natAbs≤B64^(m+k):=by rw [Int.natAbs_mul];exact jjX h.num h'.num
theorem Sz.mulD {m k:Nat} {x y:Rat} (h:Sz m x) (h':Sz k y):((x.den:Int)*(y.den:Int)).natAbs≤B64^(m+k):=by rw [Int.natAbs_mul];exact jjX (by simpa using h.den) (by simpa using h'.den)
theorem Sz.mulND {m k:Nat} {x y:Rat} (h:Sz m x) (h':Sz k y):(x.num*(y.den:Int)).natAbs≤B64^(m+k):=by rw [Int.natAbs_mul];exact jjX h.num (by simpa using h'.den)
theorem Sz.mulDN {m k:Nat} {x y:Rat} (h:Sz m x) (h':Sz k y):(y.num*(x.den:Int)).natAbs≤B64^(m+k):=by rw [Nat.add_comm];exact h'.mulND h
theorem Sz.addN {m k:Nat} {x y:Rat} (h:Sz m x) (h':Sz k y):(x.num*(y.den:Int)+y.num*(x.den:Int)).natAbs≤B64^(m+k+1):=
 Nat.le_trans (Int.natAbs_add_le _ _) (jpR (h.mulND h') (h.mulDN h'))
theorem jds (x y:Rat):(x.den:Int)*(y.den:Int)≠0:=Int.mul_ne_zero (Rq.den_ne x) (Rq.den_ne y)
theorem Sz.mul {m k:Nat} {x y:Rat} (h:Sz m x) (h':Sz k y):Sz (m+k) (x*y):=by
 rw [Rq.mul_eq];exact Sz.divInt (jds x y) (h.mulN h') (h.mulD h')
theorem Sz.add {m k:Nat} {x y:Rat} (h:Sz m x) (h':Sz k y):Sz (m+k+1) (x+y):=by
 rw [Rq.add_eq];exact Sz.divInt (jds x y) (h.addN h') (jor (h.mulD h'))
theorem Sz.sub {m k:Nat} {x y:Rat} (h:Sz m x) (h':Sz k y):Sz (m+k+1) (x - y):=by
 rw [Rq.sub_eq];exact h.add h'.neg
theorem Sz.inv {m:Nat} {x:Rat} (h:Sz m x) (hx:x≠0):Sz m x⁻¹:=by
 rw [Rq.inv_eq];exact Sz.divInt (Rq.ne_num hx) (by simpa using h.den) h.num
theorem Sz.div {m k:Nat} {x y:Rat} (h:Sz m x) (h':Sz k y) (hy:y≠0):Sz (m+k) (x / y):=by
 rw [Rq.div_eq];exact h.mul (h'.inv hy)

theorem jbO {s t a b:Int} {x:Rat} {A B:Option Addr} {n c m d:Nat} {w:World} (hx:Rat.divInt a b=x) (h:Rep w s A n c a) (h':Rep w t B m d b) (hl:Lim a) (hl':Lim b) (hb:b≠0):
  Calls Tryz.prog 46 #[iv s A n c,iv t B m d] w (jae x w):=hx ▸ jmk h h' hl hl' hb

section
variable {s t u v:Int} {A B C D:Option Addr} {n c m d i k j l:Nat} {w:World} {x y:Rat} {p q:Nat}
theorem jlL (h:RepF w s A n c t B m d x) (hs:Sz p x) (hp:p < 100000) (hx:x≠0):Calls Tryz.prog 114 #[fv s A n c t B m d] w (jae x⁻¹ w):=by
 have H:=qh h
 have HL1:=qh (hs.limN hp)
 have HL2:=qh (hs.limD hp)
 have HX:=qh (Rq.ne_num hx)
 have HE:=qh (Rq.inv_eq x).symm
 clear h hs hp hx
 go_enter Tryz.func114,Tryz.ntmps114
 go_wp2_with (go_at_call 46;(with_reducible refine (jbO HE.out (H.out.den.below (bq (by with_reducible repeat' first|assumption|constructor|go_size))) (H.out.num.below (bq (by with_reducible repeat' first|assumption|constructor|go_size))) HL2.out HL1.out HX.out).mono ?_);rintro e1 w1 ⟨s1,A1,n1,c1,t1,B1,m1,d1,rfl,⟨hr1,hq1⟩,hb1⟩;obtain ⟨hc1,hf1,z1_0,z1_1⟩:=bc2 w hb1 (by go_size);(try simp only [dw] at hc1 hf1))
 exact bodyPost_ret (v:= .agg #[.int .i64 (s1), .slice (A1) (n1) (c1), .int .i64 (t1), .slice (B1) (m1) (d1)]) (by simp [results,Tryz.results114,go_sem,hc1,z1_0,z1_1]) rfl (jao rfl ⟨(by with_reducible repeat first|assumption|apply rD|apply rN|apply rA|refine rP ?_ rfl (by simp [go_sem,hc1,z1_0,z1_1])|refine rB ?_ ‹_›),(by with_reducible repeat first|assumption|apply rD|apply rN|apply rA|refine rP ?_ rfl (by simp [go_sem,hc1,z1_0,z1_1])|refine rB ?_ ‹_›)⟩ (bq (by with_reducible repeat' first|assumption|constructor|go_size)))

theorem jnm (h:RepF w s A n c t B m d x) (h':RepF w u C i k v D j l y) (hs:Sz p x) (hs':Sz q y) (hpq:p+q < 100000):
  Calls Tryz.prog 54 #[fv s A n c t B m d,fv u C i k v D j l] w (jae (x*y) w):=by
 have HA:=qh h
 have HB:=qh h'
 have L1:=qh (hs.limN (by omega))
 have L2:=qh (hs.limD (by omega))
 have L3:=qh (hs'.limN (by omega))
 have L4:=qh (hs'.limD (by omega))
 have L5:=qh (jb7 (hs.mulN hs') hpq)
 have L6:=qh (jb7 (hs.mulD hs') hpq)
 have HE:=qh (Rq.mul_eq x y).symm
 have HN:=qh (jds x y)
 obtain ⟨z,hz⟩:∃z,x*y=z:=⟨_,rfl⟩
 rw [hz] at HE ⊢
 clear h h' hs hs' hpq hz
 go_enter Tryz.func54,Tryz.ntmps54
 go_wp2
 refine ja4 (fun w'=>Below (((w.alloc (.cells #[.int .i64 s, .slice A n c, .int .i64 t, .slice B m d] 69)).alloc (.cells #[.int .i64 u, .slice C i k, .int .i64 v, .slice D j l] 69)).alloc (.cells #[.int .i64 0, .slice none 0 0, .int .i64 0, .slice none 0 0] 69)).heap.size (((w.alloc (.cells #[.int .i64 s, .slice A n c, .int .i64 t, .slice B m d] 69)).alloc (.cells #[.int .i64 u, .slice C i k, .int .i64 v, .slice D j l] 69)).alloc (.cells #[.int .i64 0, .slice none 0 0, .int .i64 0, .slice none 0 0] 69)) w') [11] (by kernel_rfl) ?_
 refine tb 0 (.pointer (some ⟨w.heap.size,0,none⟩)) [1] rfl (by kernel_rfl) (fun _ _ _ h=>h) (by rfl) (by intros;go_simp) bq0 ?_
 simp only [ppq]
 refine tb 1 (.agg #[.int .i64 s, .slice A n c]) [4] rfl (by kernel_rfl) (fun _ _ _ h=>h) (by rfl) (by intros;go_simp) bq0 ?_
 simp only [ppq]
 refine tb 2 (.pointer (some ⟨w.heap.size+1,0,none⟩)) [3] rfl (by kernel_rfl) (fun _ _ _ h=>h) (by rfl) (by intros;go_simp) bq0 ?_
 simp only [ppq]
 refine tb 3 (.agg #[.int .i64 u, .slice C i k]) [4] rfl (by kernel_rfl) (fun _ _ _ h=>h) (by rfl) (by intros;go_simp) bq0 ?_
 simp only [ppq]
 refine tb 5 (.pointer (some ⟨w.heap.size,2,none⟩)) [6] rfl (by kernel_rfl) (fun _ _ _ h=>h) (by rfl) (by intros;go_simp) bq0 ?_
 simp only [ppq]
 refine tb 6 (.agg #[.int .i64 t, .slice B m d]) [9] rfl (by kernel_rfl) (fun _ _ _ h=>h) (by rfl) (by intros;go_simp) bq0 ?_
 simp only [ppq]
 refine tb 7 (.pointer (some ⟨w.heap.size+1,2,none⟩)) [8] rfl (by kernel_rfl) (fun _ _ _ h=>h) (by rfl) (by intros;go_simp) bq0 ?_
 simp only [ppq]
 refine tb 8 (.agg #[.int .i64 v, .slice D j l]) [9] rfl (by kernel_rfl) (fun _ _ _ h=>h) (by rfl) (by intros;go_simp) bq0 ?_
 simp only [ppq]
 refine rd1 4 (by kernel_rfl) rfl (fun K hK=> ?_)
 go_simp
 go_wp2_with (go_at_call 102;(with_reducible refine (jbx (HA.out.num.below (bq (by with_reducible repeat' first|assumption|constructor|go_size))) (HB.out.num.below (bq (by with_reducible repeat' first|assumption|constructor|go_size))) L1.out L3.out).mono ?_);rintro e1 w1 ⟨s1,A1,n1,c1,rfl,hr1,hb1⟩;obtain ⟨hc1,hf1,z1_0,z1_1,z1_2⟩:=bc3 w hb1 (by go_size);(try simp only [dw] at hc1 hf1))
 have sS1:=qh (bst bq0 hb1)
 refine hK.out _ _ (fun _=>sS1.out) ?_
 clear hK K
 refine rd1 9 (by kernel_rfl) rfl (fun K hK=> ?_)
 go_simp
 go_wp2_with (go_at_call 102;(with_reducible refine (jbx (HA.out.den.below (bq (by with_reducible repeat' first|assumption|constructor|go_size))) (HB.out.den.below (bq (by with_reducible repeat' first|assumption|constructor|go_size))) L2.out L4.out).mono ?_);rintro e2 w2 ⟨s2,A2,n2,c2,rfl,hr2,hb2⟩;obtain ⟨hc2,hf2,z2_0,z2_1,z2_2⟩:=bc3 w hb2 (by go_size);(try simp only [dw] at hc2 hf2))
 have sS2:=qh (bst sS1.out hb2)
 refine hK.out _ _ (fun _=>sS2.out) ?_
 clear hK K
 refine rd1 10 (by kernel_rfl) rfl (fun K hK=> ?_)
 go_simp
 go_wp2_with (go_at_call 46;(with_reducible refine (jbO HE.out (by with_reducible repeat first|assumption|apply rD|apply rN|apply rA|refine rP ?_ rfl (by simp [go_sem,hc2])|refine rB ?_ ‹_›) (by with_reducible repeat first|assumption|apply rD|apply rN|apply rA|refine rP ?_ rfl (by simp [go_sem,hc2])|refine rB ?_ ‹_›) L5.out L6.out HN.out).mono ?_);rintro e3 w3 ⟨s3,A3,n3,c3,t3,B3,m3,d3,rfl,⟨hr3,hq3⟩,hb3⟩;obtain ⟨hc3,hf3,z3_0,z3_1,z3_2⟩:=bc3 w hb3 (by go_size);(try simp only [dw] at hc3 hf3))
 have sS3:=qh (bst sS2.out hb3)
 refine hK.out _ _ (fun _=>sS3.out) ?_
 clear hK K
 refine rd1 11 (by kernel_rfl) rfl (fun K hK=> ?_)
 go_simp
 refine hK.out _ _ (fun h=>(h (by decide)).elim) ?_
 clear hK K
 refine ja2 (by kernel_rfl) ?_ _
 go_wp2
 exact bodyPost_ret (v:= .agg #[.int .i64 (s3), .slice (A3) (n3) (c3), .int .i64 (t3), .slice (B3) (m3) (d3)]) (by simp [results,Tryz.results54,go_sem,hc3,z2_2,hc2,z1_2,hc1,z2_0,z2_1,z1_0,z1_1]) rfl (jao rfl ⟨(by with_reducible repeat first|assumption|apply rD|apply rN|apply rA|refine rP ?_ rfl (by simp [go_sem,hc3,z2_2,hc2,z1_2,hc1,z2_0,z2_1,z1_0,z1_1])|refine rB ?_ ‹_›),(by with_reducible repeat first|assumption|apply rD|apply rN|apply rA|refine rP ?_ rfl (by simp [go_sem,hc3,z2_2,hc2,z1_2,hc1,z2_0,z2_1,z1_0,z1_1])|refine rB ?_ ‹_›)⟩ (bq (by with_reducible repeat' first|assumption|constructor|go_size)))

theorem jlY (h:RepF w s A n c t B m d x) (h':RepF w u C i k v D j l y) (hs:Sz p x) (hs':Sz q y) (hpq:p+q < 100000):
  Calls Tryz.prog 59 #[fv s A n c t B m d,fv u C i k v D j l] w fun e w'=>e= .returned (.int .i64 (Rq.cmpQ x y))∧Below w.heap.size w w':=by
 have HA:=qh h
 have HB:=qh h'
 have L1:=qh (hs.limN (by omega))
 have L2:=qh (hs.limD (by omega))
 have L3:=qh (hs'.limN (by omega))
 have L4:=qh (hs'.limD (by omega))
 have L5:=qh (jb7 (hs.mulND hs') hpq)
 have L6:=qh (jb7 (hs.mulDN hs') hpq)
 rw [←Rq.cmp_eq x y]
 clear h h' hs hs' hpq
 go_enter Tryz.func59,Tryz.ntmps59
 go_wp2
 refine ja4 (fun w'=>Below ((w.alloc (.cells #[.int .i64 s, .slice A n c, .int .i64 t, .slice B m d] 69)).alloc (.cells #[.int .i64 u, .slice C i k, .int .i64 v, .slice D j l] 69)).heap.size ((w.alloc (.cells #[.int .i64 s, .slice A n c, .int .i64 t, .slice B m d] 69)).alloc (.cells #[.int .i64 u, .slice C i k, .int .i64 v, .slice D j l] 69)) w') [11] (by kernel_rfl) ?_
 refine tb 0 (.pointer (some ⟨w.heap.size,0,none⟩)) [1] rfl (by kernel_rfl) (fun _ _ _ h=>h) (by rfl) (by intros;go_simp) bq0 ?_
 simp only [ppq]
 refine tb 1 (.agg #[.int .i64 s, .slice A n c]) [4] rfl (by kernel_rfl) (fun _ _ _ h=>h) (by rfl) (by intros;go_simp) bq0 ?_
 simp only [ppq]
 refine tb 2 (.pointer (some ⟨w.heap.size+1,2,none⟩)) [3] rfl (by kernel_rfl) (fun _ _ _ h=>h) (by rfl) (by intros;go_simp) bq0 ?_
 simp only [ppq]
 refine tb 3 (.agg #[.int .i64 v, .slice D j l]) [4] rfl (by kernel_rfl) (fun _ _ _ h=>h) (by rfl) (by intros;go_simp) bq0 ?_
 simp only [ppq]
 refine tb 5 (.pointer (some ⟨w.heap.size+1,0,none⟩)) [6] rfl (by kernel_rfl) (fun _ _ _ h=>h) (by rfl) (by intros;go_simp) bq0 ?_
 simp only [ppq]
 refine tb 6 (.agg #[.int .i64 u, .slice C i k]) [9] rfl (by kernel_rfl) (fun _ _ _ h=>h) (by rfl) (by intros;go_simp) bq0 ?_
 simp only [ppq]
 refine tb 7 (.pointer (some ⟨w.heap.size,2,none⟩)) [8] rfl (by kernel_rfl) (fun _ _ _ h=>h) (by rfl) (by intros;go_simp) bq0 ?_
 simp only [ppq]
 refine tb 8 (.agg #[.int .i64 t, .slice B m d]) [9] rfl (by kernel_rfl) (fun _ _ _ h=>h) (by rfl) (by intros;go_simp) bq0 ?_
 simp only [ppq]
 refine rd1 4 (by kernel_rfl) rfl (fun K hK=> ?_)
 go_simp
 go_wp2_with (go_at_call 102;(with_reducible refine (jbx (HA.out.num.below (bq (by with_reducible repeat' first|assumption|constructor|go_size))) (HB.out.den.below (bq (by with_reducible repeat' first|assumption|constructor|go_size))) L1.out L4.out).mono ?_);rintro e1 w1 ⟨s1,A1,n1,c1,rfl,hr1,hb1⟩;obtain ⟨hc1,hf1,z1_0,z1_1⟩:=bc2 w hb1 (by go_size);(try simp only [dw] at hc1 hf1))
 have sS1:=qh (bst bq0 hb1)
 refine hK.out _ _ (fun _=>sS1.out) ?_
 clear hK K
 refine rd1 9 (by kernel_rfl) rfl (fun K hK=> ?_)
 go_simp
 go_wp2_with (go_at_call 102;(with_reducible refine (jbx (HB.out.num.below (bq (by with_reducible repeat' first|assumption|constructor|go_size))) (HA.out.den.below (bq (by with_reducible repeat' first|assumption|constructor|go_size))) L3.out L2.out).mono ?_);rintro e2 w2 ⟨s2,A2,n2,c2,rfl,hr2,hb2⟩;obtain ⟨hc2,hf2,z2_0,z2_1⟩:=bc2 w hb2 (by go_size);(try simp only [dw] at hc2 hf2))
 have sS2:=qh (bst sS1.out hb2)
 refine hK.out _ _ (fun _=>sS2.out) ?_
 clear hK K
 refine rd1 10 (by kernel_rfl) rfl (fun K hK=> ?_)
 go_simp
 go_wp2_with (go_at_call 105;(with_reducible refine (jpg (by with_reducible repeat first|assumption|apply rD|apply rN|apply rA|refine rP ?_ rfl (by simp [go_sem,hc2])|refine rB ?_ ‹_›) (by with_reducible repeat first|assumption|apply rD|apply rN|apply rA|refine rP ?_ rfl (by simp [go_sem,hc2])|refine rB ?_ ‹_›) L5.out L6.out).mono ?_);rintro e3 w3 ⟨rfl,hb3⟩;obtain ⟨hc3,hf3,z3_0,z3_1⟩:=bc2 w hb3 (by go_size);(try simp only [dw] at hc3 hf3))
 have sS3:=qh (bst sS2.out hb3)
 refine hK.out _ _ (fun _=>sS3.out) ?_
 clear hK K
 refine rd1 11 (by kernel_rfl) rfl (fun K hK=> ?_)
 go_simp
 refine hK.out _ _ (fun _=>(bq (by with_reducible repeat' first|assumption|constructor|go_size))) ?_
 clear hK K
 refine ja2 (by kernel_rfl) ?_ _
 go_wp2
 go_ret
 exact ⟨rfl,(bq (by with_reducible repeat' first|assumption|constructor|go_size))⟩
end
end Go.Proofs.YthciialjockjmaaGreatDoor
