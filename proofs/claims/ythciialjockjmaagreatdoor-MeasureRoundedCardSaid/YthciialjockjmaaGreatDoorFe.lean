/- Parts. -/
import Derived.Test.YthciialjockjmaaGreatDoorFd
set_option linter.all false
set_option maxRecDepth 100000
set_option maxHeartbeats 8000000
namespace Go.Proofs.YthciialjockjmaaGreatDoor
open Go Go.RowKit

theorem jaV {w:World} {s t:Int} {A B:Option Addr} {n c m d:Nat} {x:Rat} {g:Bool} (hg:decide (x.den=1)=g) (h:RepF w s A n c t B m d x):Calls Tryz.prog 110 #[fv s A n c t B m d] w fun e w'=>e= .returned (.bool g)∧Below w.heap.size w w':=hg ▸ jhr h
theorem jbd {w:World} {s a:Int} {A:Option Addr} {n c:Nat} {x:Rat} (hx:(a:Rat)=x) (h:Rep w s A n c a):Calls Tryz.prog 49 #[iv s A n c] w (jae x w):=hx ▸ jgR h

section
variable {s t u v:Int} {A B C D:Option Addr} {n c m d i k j l:Nat} {w:World} {x y:Rat} {p q:Nat}
theorem jjA (h:RepF w s A n c t B m d x) (h':RepF w u C i k v D j l y) (hs:Sz p x) (hs':Sz q y) (hpq:p+q+1 < 100000) (hx:x.den=1) (hy:y.den=1):
  Calls Tryz.prog 67 #[fv s A n c t B m d,fv u C i k v D j l] w (jae (x+y) w):=by
 have HA:=qh h
 have HB:=qh h'
 have L1:=qh (hs.limN (by omega))
 have L2:=qh (hs.limD (by omega))
 have L3:=qh (hs'.limN (by omega))
 have L4:=qh (hs'.limD (by omega))
 have L5:=qh (jb7 (hs.mulND hs') (by omega))
 have L6:=qh (jb7 (hs.mulDN hs') (by omega))
 have L7:=qh (jb7 (hs.mulD hs') (by omega))
 have L8:=qh (jb7 (hs.addN hs') hpq)
 have HE:=qh (Rq.add_eq x y).symm
 have HN:=qh (jds x y)
 have HX:=qh (show decide (x.den=1)=true by simp [hx])
 have HY:=qh (show decide (y.den=1)=true by simp [hy])
 have HW:=qh (Rq.add_whole hx hy).symm
 obtain ⟨z,hz⟩:∃z,x+y=z:=⟨_,rfl⟩
 rw [hz] at HE HW ⊢
 clear h h' hs hs' hpq hx hy hz
 go_enter Tryz.func67,Tryz.ntmps67
 go_wp2_with (first
  | (go_at_call 110;(with_reducible show Calls _ _ #[fv s A n c t B m d] _ _);(with_reducible refine (jaV HX.out (HA.out.below (bq (by with_reducible repeat' first|assumption|constructor|go_size)))).mono ?_);rintro e1 w1 ⟨rfl,hb1⟩;obtain ⟨hc1,hf1,z1_0,z1_1,z1_2⟩:=bc3 w hb1 (by go_size);(try simp only [dw] at hc1 hf1))
  | (go_at_call 110;(with_reducible show Calls _ _ #[fv u C i k v D j l] _ _);(with_reducible refine (jaV HY.out (HB.out.below (bq (by with_reducible repeat' first|assumption|constructor|go_size)))).mono ?_);rintro e2 w2 ⟨rfl,hb2⟩;obtain ⟨hc2,hf2,z2_0,z2_1,z2_2⟩:=bc3 w hb2 (by go_size);(try simp only [dw] at hc2 hf2))
  | (go_at_call 86;(with_reducible refine (jcR (HA.out.num.below (bq (by with_reducible repeat' first|assumption|constructor|go_size))) (HB.out.num.below (bq (by with_reducible repeat' first|assumption|constructor|go_size))) L1.out L3.out).mono ?_);rintro e4 w4 ⟨s4,A4,n4,c4,rfl,hr4,hb4⟩;obtain ⟨hc4,hf4,z4_0,z4_1,z4_2⟩:=bc3 w hb4 (by go_size);(try simp only [dw] at hc4 hf4))
  | (go_at_call 49;(with_reducible refine (jbd HW.out hr4).mono ?_);rintro e3 w3 ⟨s3,A3,n3,c3,t3,B3,m3,d3,rfl,⟨hr3,hq3⟩,hb3⟩;obtain ⟨hc3,hf3,z3_0,z3_1,z3_2⟩:=bc3 w hb3 (by go_size);(try simp only [dw] at hc3 hf3)))
 exact bodyPost_ret (v:= .agg #[.int .i64 (s3), .slice (A3) (n3) (c3), .int .i64 (t3), .slice (B3) (m3) (d3)]) (by simp [results,Tryz.results67,go_sem,hc4,z4_2,hc3,z2_2,hc2,z1_2,hc1,z2_0,z2_1,z1_0,z1_1]) rfl (jao rfl ⟨(by with_reducible repeat first|assumption|apply rD|apply rN|apply rA|refine rP ?_ rfl (by simp [go_sem,hc4,z4_2,hc3,z2_2,hc2,z1_2,hc1,z2_0,z2_1,z1_0,z1_1])|refine rB ?_ ‹_›),(by with_reducible repeat first|assumption|apply rD|apply rN|apply rA|refine rP ?_ rfl (by simp [go_sem,hc4,z4_2,hc3,z2_2,hc2,z1_2,hc1,z2_0,z2_1,z1_0,z1_1])|refine rB ?_ ‹_›)⟩ (bq (by with_reducible repeat' first|assumption|constructor|go_size)))

theorem jiS (h:RepF w s A n c t B m d x) (h':RepF w u C i k v D j l y) (hs:Sz p x) (hs':Sz q y) (hpq:p+q+1 < 100000) (hx:x.den≠1):
  Calls Tryz.prog 67 #[fv s A n c t B m d,fv u C i k v D j l] w (jae (x+y) w):=by
 have HA:=qh h
 have HB:=qh h'
 have L1:=qh (hs.limN (by omega))
 have L2:=qh (hs.limD (by omega))
 have L3:=qh (hs'.limN (by omega))
 have L4:=qh (hs'.limD (by omega))
 have L5:=qh (jb7 (hs.mulND hs') (by omega))
 have L6:=qh (jb7 (hs.mulDN hs') (by omega))
 have L7:=qh (jb7 (hs.mulD hs') (by omega))
 have L8:=qh (jb7 (hs.addN hs') hpq)
 have HE:=qh (Rq.add_eq x y).symm
 have HN:=qh (jds x y)
 have HX:=qh (show decide (x.den=1)=false by simp [hx])
 obtain ⟨z,hz⟩:∃z,x+y=z:=⟨_,rfl⟩
 rw [hz] at HE ⊢
 clear h h' hs hs' hpq hx hz
 go_enter Tryz.func67,Tryz.ntmps67
 go_wp2_with (go_at_call 110;(with_reducible refine (jaV HX.out (HA.out.below (bq (by with_reducible repeat' first|assumption|constructor|go_size)))).mono ?_);rintro e1 w1 ⟨rfl,hb1⟩;obtain ⟨hc1,hf1,z1_0,z1_1,z1_2⟩:=bc3 w hb1 (by go_size);(try simp only [dw] at hc1 hf1))
 refine ja4 (fun w'=>Below w1.heap.size w1 w') [17] (by kernel_rfl) ?_
 refine tb 0 (.pointer (some ⟨w.heap.size,0,none⟩)) [1] rfl (by kernel_rfl) (fun _ _ _ h=>h) (by rfl) (by intros;go_simp) bq0 ?_
 simp only [ppq]
 refine tb 1 (.agg #[.int .i64 s, .slice A n c]) [4] rfl (by kernel_rfl) (fun _ _ _ h=>h) (by rfl) (by intros;go_simp) bq0 ?_
 simp only [ppq]
 refine tb 2 (.pointer (some ⟨w.heap.size+1,2,none⟩)) [3] rfl (by kernel_rfl) (fun _ _ _ h=>h) (by rfl) (by intros;go_simp) bq0 ?_
 simp only [ppq]
 refine tb 3 (.agg #[.int .i64 v, .slice D j l]) [4] rfl (by kernel_rfl) (fun _ _ _ h=>h) (by rfl) (by intros;go_simp) bq0 ?_
 simp only [ppq]
 refine tb 5 (.pointer (some ⟨w.heap.size+1,0,none⟩)) [6] rfl (by kernel_rfl) (fun _ _ _ h=>h) (by rfl) (by intros;go_simp) bq0 ?_
 simp only [ppq]
 refine tb 6 (.agg #[.int .i64 u, .slice C i k]) [9] rfl (by kernel_rfl) (fun _ _ _ h=>h) (by rfl) (by intros;go_simp) bq0 ?_
 simp only [ppq]
 refine tb 7 (.pointer (some ⟨w.heap.size,2,none⟩)) [8] rfl (by kernel_rfl) (fun _ _ _ h=>h) (by rfl) (by intros;go_simp) bq0 ?_
 simp only [ppq]
 refine tb 8 (.agg #[.int .i64 t, .slice B m d]) [9] rfl (by kernel_rfl) (fun _ _ _ h=>h) (by rfl) (by intros;go_simp) bq0 ?_
 simp only [ppq]
 refine tb 11 (.pointer (some ⟨w.heap.size,2,none⟩)) [12] rfl (by kernel_rfl) (fun _ _ _ h=>h) (by rfl) (by intros;go_simp) bq0 ?_
 simp only [ppq]
 refine tb 12 (.agg #[.int .i64 t, .slice B m d]) [15] rfl (by kernel_rfl) (fun _ _ _ h=>h) (by rfl) (by intros;go_simp) bq0 ?_
 simp only [ppq]
 refine tb 13 (.pointer (some ⟨w.heap.size+1,2,none⟩)) [14] rfl (by kernel_rfl) (fun _ _ _ h=>h) (by rfl) (by intros;go_simp) bq0 ?_
 simp only [ppq]
 refine tb 14 (.agg #[.int .i64 v, .slice D j l]) [15] rfl (by kernel_rfl) (fun _ _ _ h=>h) (by rfl) (by intros;go_simp) bq0 ?_
 simp only [ppq]
 refine rd1 4 (by kernel_rfl) rfl (fun K hK=> ?_)
 go_simp
 go_wp2_with (go_at_call 102;(with_reducible refine (jbx (HA.out.num.below (bq (by with_reducible repeat' first|assumption|constructor|go_size))) (HB.out.den.below (bq (by with_reducible repeat' first|assumption|constructor|go_size))) L1.out L4.out).mono ?_);rintro e3 w3 ⟨s3,A3,n3,c3,rfl,hr3,hb3⟩;obtain ⟨hc3,hf3,z3_0,z3_1,z3_2⟩:=bc3 w hb3 (by go_size);(try simp only [dw] at hc3 hf3))
 have sS3:=qh (bst bq0 hb3)
 refine hK.out _ _ (fun _=>sS3.out) ?_
 clear hK K
 refine rd1 9 (by kernel_rfl) rfl (fun K hK=> ?_)
 go_simp
 go_wp2_with (go_at_call 102;(with_reducible refine (jbx (HB.out.num.below (bq (by with_reducible repeat' first|assumption|constructor|go_size))) (HA.out.den.below (bq (by with_reducible repeat' first|assumption|constructor|go_size))) L3.out L2.out).mono ?_);rintro e4 w4 ⟨s4,A4,n4,c4,rfl,hr4,hb4⟩;obtain ⟨hc4,hf4,z4_0,z4_1,z4_2⟩:=bc3 w hb4 (by go_size);(try simp only [dw] at hc4 hf4))
 have sS4:=qh (bst sS3.out hb4)
 refine hK.out _ _ (fun _=>sS4.out) ?_
 clear hK K
 refine rd1 10 (by kernel_rfl) rfl (fun K hK=> ?_)
 go_simp
 go_wp2_with (go_at_call 86;(with_reducible refine (jcR (by with_reducible repeat first|assumption|apply rD|apply rN|apply rA|refine rP ?_ rfl (by simp [go_sem,hc4])|refine rB ?_ ‹_›) (by with_reducible repeat first|assumption|apply rD|apply rN|apply rA|refine rP ?_ rfl (by simp [go_sem,hc4])|refine rB ?_ ‹_›) L5.out L6.out).mono ?_);rintro e5 w5 ⟨s5,A5,n5,c5,rfl,hr5,hb5⟩;obtain ⟨hc5,hf5,z5_0,z5_1,z5_2⟩:=bc3 w hb5 (by go_size);(try simp only [dw] at hc5 hf5))
 have sS5:=qh (bst sS4.out hb5)
 refine hK.out _ _ (fun _=>sS5.out) ?_
 clear hK K
 refine rd1 15 (by kernel_rfl) rfl (fun K hK=> ?_)
 go_simp
 go_wp2_with (go_at_call 102;(with_reducible refine (jbx (HA.out.den.below (bq (by with_reducible repeat' first|assumption|constructor|go_size))) (HB.out.den.below (bq (by with_reducible repeat' first|assumption|constructor|go_size))) L2.out L4.out).mono ?_);rintro e6 w6 ⟨s6,A6,n6,c6,rfl,hr6,hb6⟩;obtain ⟨hc6,hf6,z6_0,z6_1,z6_2⟩:=bc3 w hb6 (by go_size);(try simp only [dw] at hc6 hf6))
 have sS6:=qh (bst sS5.out hb6)
 refine hK.out _ _ (fun _=>sS6.out) ?_
 clear hK K
 refine rd1 16 (by kernel_rfl) rfl (fun K hK=> ?_)
 go_simp
 go_wp2_with (go_at_call 46;(with_reducible refine (jbO HE.out (by with_reducible repeat first|assumption|apply rD|apply rN|apply rA|refine rP ?_ rfl (by simp [go_sem,hc6])|refine rB ?_ ‹_›) (by with_reducible repeat first|assumption|apply rD|apply rN|apply rA|refine rP ?_ rfl (by simp [go_sem,hc6])|refine rB ?_ ‹_›) L8.out L7.out HN.out).mono ?_);rintro e7 w7 ⟨s7,A7,n7,c7,t7,B7,m7,d7,rfl,⟨hr7,hq7⟩,hb7⟩;obtain ⟨hc7,hf7,z7_0,z7_1,z7_2⟩:=bc3 w hb7 (by go_size);(try simp only [dw] at hc7 hf7))
 have sS7:=qh (bst sS6.out hb7)
 refine hK.out _ _ (fun _=>sS7.out) ?_
 clear hK K
 refine rd1 17 (by kernel_rfl) rfl (fun K hK=> ?_)
 go_simp
 refine hK.out _ _ (fun h=>(h (by decide)).elim) ?_
 clear hK K
 refine ja2 (by kernel_rfl) ?_ _
 go_wp2
 exact bodyPost_ret (v:= .agg #[.int .i64 (s7), .slice (A7) (n7) (c7), .int .i64 (t7), .slice (B7) (m7) (d7)]) (by simp [results,Tryz.results67,go_sem,hc7,z6_2,hc6,z5_2,hc5,z4_2,hc4,z3_2,hc3,z1_2,hc1]) rfl (jao rfl ⟨(by with_reducible repeat first|assumption|apply rD|apply rN|apply rA|refine rP ?_ rfl (by simp [go_sem,hc7,z6_2,hc6,z5_2,hc5,z4_2,hc4,z3_2,hc3,z1_2,hc1])|refine rB ?_ ‹_›),(by with_reducible repeat first|assumption|apply rD|apply rN|apply rA|refine rP ?_ rfl (by simp [go_sem,hc7,z6_2,hc6,z5_2,hc5,z4_2,hc4,z3_2,hc3,z1_2,hc1])|refine rB ?_ ‹_›)⟩ (bq (by with_reducible repeat' first|assumption|constructor|go_size)))
theorem jjj (h:RepF w s A n c t B m d x) (h':RepF w u C i k v D j l y) (hs:Sz p x) (hs':Sz q y) (hpq:p+q+1 < 100000) (hx:x.den=1) (hy:y.den≠1):
  Calls Tryz.prog 67 #[fv s A n c t B m d,fv u C i k v D j l] w (jae (x+y) w):=by
 have HA:=qh h
 have HB:=qh h'
 have L1:=qh (hs.limN (by omega))
 have L2:=qh (hs.limD (by omega))
 have L3:=qh (hs'.limN (by omega))
 have L4:=qh (hs'.limD (by omega))
 have L5:=qh (jb7 (hs.mulND hs') (by omega))
 have L6:=qh (jb7 (hs.mulDN hs') (by omega))
 have L7:=qh (jb7 (hs.mulD hs') (by omega))
 have L8:=qh (jb7 (hs.addN hs') hpq)
 have HE:=qh (Rq.add_eq x y).symm
 have HN:=qh (jds x y)
 have HX:=qh (show decide (x.den=1)=true by simp [hx])
 have HY:=qh (show decide (y.den=1)=false by simp [hy])
 obtain ⟨z,hz⟩:∃z,x+y=z:=⟨_,rfl⟩
 rw [hz] at HE ⊢
 clear h h' hs hs' hpq hx hy hz
 go_enter Tryz.func67,Tryz.ntmps67
 go_wp2_with (first
  | (go_at_call 110;(with_reducible show Calls _ _ #[fv s A n c t B m d] _ _);(with_reducible refine (jaV HX.out (HA.out.below (bq (by with_reducible repeat' first|assumption|constructor|go_size)))).mono ?_);rintro e1 w1 ⟨rfl,hb1⟩;obtain ⟨hc1,hf1,z1_0,z1_1,z1_2⟩:=bc3 w hb1 (by go_size);(try simp only [dw] at hc1 hf1))
  | (go_at_call 110;(with_reducible show Calls _ _ #[fv u C i k v D j l] _ _);(with_reducible refine (jaV HY.out (HB.out.below (bq (by with_reducible repeat' first|assumption|constructor|go_size)))).mono ?_);rintro e2 w2 ⟨rfl,hb2⟩;obtain ⟨hc2,hf2,z2_0,z2_1,z2_2⟩:=bc3 w hb2 (by go_size);(try simp only [dw] at hc2 hf2)))
 refine ja4 (fun w'=>Below w2.heap.size w2 w') [17] (by kernel_rfl) ?_
 refine tb 0 (.pointer (some ⟨w.heap.size,0,none⟩)) [1] rfl (by kernel_rfl) (fun _ _ _ h=>h) (by rfl) (by intros;go_simp) bq0 ?_
 simp only [ppq]
 refine tb 1 (.agg #[.int .i64 s, .slice A n c]) [4] rfl (by kernel_rfl) (fun _ _ _ h=>h) (by rfl) (by intros;go_simp) bq0 ?_
 simp only [ppq]
 refine tb 2 (.pointer (some ⟨w.heap.size+1,2,none⟩)) [3] rfl (by kernel_rfl) (fun _ _ _ h=>h) (by rfl) (by intros;go_simp) bq0 ?_
 simp only [ppq]
 refine tb 3 (.agg #[.int .i64 v, .slice D j l]) [4] rfl (by kernel_rfl) (fun _ _ _ h=>h) (by rfl) (by intros;go_simp) bq0 ?_
 simp only [ppq]
 refine tb 5 (.pointer (some ⟨w.heap.size+1,0,none⟩)) [6] rfl (by kernel_rfl) (fun _ _ _ h=>h) (by rfl) (by intros;go_simp) bq0 ?_
 simp only [ppq]
 refine tb 6 (.agg #[.int .i64 u, .slice C i k]) [9] rfl (by kernel_rfl) (fun _ _ _ h=>h) (by rfl) (by intros;go_simp) bq0 ?_
 simp only [ppq]
 refine tb 7 (.pointer (some ⟨w.heap.size,2,none⟩)) [8] rfl (by kernel_rfl) (fun _ _ _ h=>h) (by rfl) (by intros;go_simp) bq0 ?_
 simp only [ppq]
 refine tb 8 (.agg #[.int .i64 t, .slice B m d]) [9] rfl (by kernel_rfl) (fun _ _ _ h=>h) (by rfl) (by intros;go_simp) bq0 ?_
 simp only [ppq]
 refine tb 11 (.pointer (some ⟨w.heap.size,2,none⟩)) [12] rfl (by kernel_rfl) (fun _ _ _ h=>h) (by rfl) (by intros;go_simp) bq0 ?_
 simp only [ppq]
 refine tb 12 (.agg #[.int .i64 t, .slice B m d]) [15] rfl (by kernel_rfl) (fun _ _ _ h=>h) (by rfl) (by intros;go_simp) bq0 ?_
 simp only [ppq]
 refine tb 13 (.pointer (some ⟨w.heap.size+1,2,none⟩)) [14] rfl (by kernel_rfl) (fun _ _ _ h=>h) (by rfl) (by intros;go_simp) bq0 ?_
 simp only [ppq]
 refine tb 14 (.agg #[.int .i64 v, .slice D j l]) [15] rfl (by kernel_rfl) (fun _ _ _ h=>h) (by rfl) (by intros;go_simp) bq0 ?_
 simp only [ppq]
 refine rd1 4 (by kernel_rfl) rfl (fun K hK=> ?_)
 go_simp
 go_wp2_with (go_at_call 102;(with_reducible refine (jbx (HA.out.num.below (bq (by with_reducible repeat' first|assumption|constructor|go_size))) (HB.out.den.below (bq (by with_reducible repeat' first|assumption|constructor|go_size))) L1.out L4.out).mono ?_);rintro e3 w3 ⟨s3,A3,n3,c3,rfl,hr3,hb3⟩;obtain ⟨hc3,hf3,z3_0,z3_1,z3_2⟩:=bc3 w hb3 (by go_size);(try simp only [dw] at hc3 hf3))
 have sS3:=qh (bst bq0 hb3)
 refine hK.out _ _ (fun _=>sS3.out) ?_
 clear hK K
 refine rd1 9 (by kernel_rfl) rfl (fun K hK=> ?_)
 go_simp
 go_wp2_with (go_at_call 102;(with_reducible refine (jbx (HB.out.num.below (bq (by with_reducible repeat' first|assumption|constructor|go_size))) (HA.out.den.below (bq (by with_reducible repeat' first|assumption|constructor|go_size))) L3.out L2.out).mono ?_);rintro e4 w4 ⟨s4,A4,n4,c4,rfl,hr4,hb4⟩;obtain ⟨hc4,hf4,z4_0,z4_1,z4_2⟩:=bc3 w hb4 (by go_size);(try simp only [dw] at hc4 hf4))
 have sS4:=qh (bst sS3.out hb4)
 refine hK.out _ _ (fun _=>sS4.out) ?_
 clear hK K
 refine rd1 10 (by kernel_rfl) rfl (fun K hK=> ?_)
 go_simp
 go_wp2_with (go_at_call 86;(with_reducible refine (jcR (by with_reducible repeat first|assumption|apply rD|apply rN|apply rA|refine rP ?_ rfl (by simp [go_sem,hc4])|refine rB ?_ ‹_›) (by with_reducible repeat first|assumption|apply rD|apply rN|apply rA|refine rP ?_ rfl (by simp [go_sem,hc4])|refine rB ?_ ‹_›) L5.out L6.out).mono ?_);rintro e5 w5 ⟨s5,A5,n5,c5,rfl,hr5,hb5⟩;obtain ⟨hc5,hf5,z5_0,z5_1,z5_2⟩:=bc3 w hb5 (by go_size);(try simp only [dw] at hc5 hf5))
 have sS5:=qh (bst sS4.out hb5)
 refine hK.out _ _ (fun _=>sS5.out) ?_
 clear hK K
 refine rd1 15 (by kernel_rfl) rfl (fun K hK=> ?_)
 go_simp
 go_wp2_with (go_at_call 102;(with_reducible refine (jbx (HA.out.den.below (bq (by with_reducible repeat' first|assumption|constructor|go_size))) (HB.out.den.below (bq (by with_reducible repeat' first|assumption|constructor|go_size))) L2.out L4.out).mono ?_);rintro e6 w6 ⟨s6,A6,n6,c6,rfl,hr6,hb6⟩;obtain ⟨hc6,hf6,z6_0,z6_1,z6_2⟩:=bc3 w hb6 (by go_size);(try simp only [dw] at hc6 hf6))
 have sS6:=qh (bst sS5.out hb6)
 refine hK.out _ _ (fun _=>sS6.out) ?_
 clear hK K
 refine rd1 16 (by kernel_rfl) rfl (fun K hK=> ?_)
 go_simp
 go_wp2_with (go_at_call 46;(with_reducible refine (jbO HE.out (by with_reducible repeat first|assumption|apply rD|apply rN|apply rA|refine rP ?_ rfl (by simp [go_sem,hc6])|refine rB ?_ ‹_›) (by with_reducible repeat first|assumption|apply rD|apply rN|apply rA|refine rP ?_ rfl (by simp [go_sem,hc6])|refine rB ?_ ‹_›) L8.out L7.out HN.out).mono ?_);rintro e7 w7 ⟨s7,A7,n7,c7,t7,B7,m7,d7,rfl,⟨hr7,hq7⟩,hb7⟩;obtain ⟨hc7,hf7,z7_0,z7_1,z7_2⟩:=bc3 w hb7 (by go_size);(try simp only [dw] at hc7 hf7))
 have sS7:=qh (bst sS6.out hb7)
 refine hK.out _ _ (fun _=>sS7.out) ?_
 clear hK K
 refine rd1 17 (by kernel_rfl) rfl (fun K hK=> ?_)
 go_simp
 refine hK.out _ _ (fun h=>(h (by decide)).elim) ?_
 clear hK K
 refine ja2 (by kernel_rfl) ?_ _
 go_wp2
 exact bodyPost_ret (v:= .agg #[.int .i64 (s7), .slice (A7) (n7) (c7), .int .i64 (t7), .slice (B7) (m7) (d7)]) (by simp [results,Tryz.results67,go_sem,hc2,z2_2,hc7,z6_2,hc6,z5_2,hc5,z4_2,hc4,z3_2,hc3,z1_2,hc1]) rfl (jao rfl ⟨(by with_reducible repeat first|assumption|apply rD|apply rN|apply rA|refine rP ?_ rfl (by simp [go_sem,hc2,z2_2,hc7,z6_2,hc6,z5_2,hc5,z4_2,hc4,z3_2,hc3,z1_2,hc1])|refine rB ?_ ‹_›),(by with_reducible repeat first|assumption|apply rD|apply rN|apply rA|refine rP ?_ rfl (by simp [go_sem,hc2,z2_2,hc7,z6_2,hc6,z5_2,hc5,z4_2,hc4,z3_2,hc3,z1_2,hc1])|refine rB ?_ ‹_›)⟩ (bq (by with_reducible repeat' first|assumption|constructor|go_size)))
theorem jmA (h:RepF w s A n c t B m d x) (h':RepF w u C i k v D j l y) (hs:Sz p x) (hs':Sz q y) (hpq:p+q+1 < 100000):
  Calls Tryz.prog 67 #[fv s A n c t B m d,fv u C i k v D j l] w (jae (x+y) w):=by
 by_cases hx:x.den=1
 ·by_cases hy:y.den=1
  ·exact jjA h h' hs hs' hpq hx hy
  ·exact jjj h h' hs hs' hpq hx hy
 ·exact jiS h h' hs hs' hpq hx
end
end Go.Proofs.YthciialjockjmaaGreatDoor
