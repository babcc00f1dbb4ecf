/- Parts. -/
import Derived.Test.YtonifflnjjcanaaGreatDoorFbG
set_option linter.all false
set_option maxRecDepth 100000
set_option maxHeartbeats 8000000
namespace Go.Proofs.YtonifflnjjcanaaGreatDoor
open Go Go.RowKit Go.Proofs.Tryz

theorem jnX {x y a b:Nat} (h:x≤B64^a) (h':y≤B64^b):x*y≤B64^(a+b):=by rw [Nat.pow_add];exact Nat.mul_le_mul h h'
theorem jtV {x y a:Nat} (h:x≤B64^a) (h':y≤B64^a):x+y≤B64^(a+1):=by
 rw [Nat.pow_succ];have:B64^a*2≤B64^a*B64:=Nat.mul_le_mul_left _ (by rw [ja3];omega);omega
theorem jr4 {x a:Nat} (h:x≤B64^a):x≤B64^(a+1):=Nat.le_trans h (Nat.pow_le_pow_right ja6 (by omega))
theorem Sz.divInt {m:Nat} {a b:Int} (hb:b≠0) (h:a.natAbs≤B64^m) (h':b.natAbs≤B64^m):Sz m (Rat.divInt a b):=
 ⟨Nat.le_trans (Rq.num_le a b) h,Nat.le_trans (Rq.den_le a hb) h'⟩
theorem Sz.mulN {m k:Nat} {x y:Rat} (h:Sz m x) (h':Sz k y):(x.num*y.num).natAbs≤B64^(m+k):=by rw [Int.natAbs_mul];exact jnX h.num h'.num
theorem Sz.mulD {m k:Nat} {x y:Rat} (h:Sz m x) (h':Sz k y):((x.den:Int)*(y.den:Int)).natAbs≤B64^(m+k):=by rw [Int.natAbs_mul];exact jnX (by simpa using h.den) (by simpa using h'.den)
theorem Sz.mulND {m k:Nat} {x y:Rat} (h:Sz m x) (h':Sz k y):(x.num*(y.den:Int)).natAbs≤B64^(m+k):=by rw [Int.natAbs_mul];exact jnX h.num (by simpa using h'.den)
theorem Sz.mulDN {m k:Nat} {x y:Rat} (h:Sz m x) (h':Sz k y):(y.num*(x.den:Int)).natAbs≤B64^(m+k):=by rw [Nat.add_comm];exact h'.mulND h
theorem Sz.addN {m k:Nat} {x y:Rat} (h:Sz m x) (h':Sz k y):(x.num*(y.den:Int)+y.num*(x.den:Int)).natAbs≤B64^(m+k+1):=
 Nat.le_trans (Int.natAbs_add_le _ _) (jtV (h.mulND h') (h.mulDN h'))
theorem jdw (x y:Rat):(x.den:Int)*(y.den:Int)≠0:=Int.mul_ne_zero (Rq.den_ne x) (Rq.den_ne y)
theorem Sz.mul {m k:Nat} {x y:Rat} (h:Sz m x) (h':Sz k y):Sz (m+k) (x*y):=by
 rw [Rq.mul_eq];exact Sz.divInt (jdw x y) (h.mulN h') (h.mulD h')
theorem Sz.add {m k:Nat} {x y:Rat} (h:Sz m x) (h':Sz k y):Sz (m+k+1) (x+y):=by
 rw [Rq.add_eq];exact Sz.divInt (jdw x y) (h.addN h') (jr4 (h.mulD h'))
theorem Sz.sub {m k:Nat} {x y:Rat} (h:Sz m x) (h':Sz k y):Sz (m+k+1) (x - y):=by
 rw [Rq.sub_eq];exact h.add h'.neg
theorem Sz.inv {m:Nat} {x:Rat} (h:Sz m x) (hx:x≠0):Sz m x⁻¹:=by
 rw [Rq.inv_eq];exact Sz.divInt (Rq.ne_num hx) (by simpa using h.den) h.num
theorem Sz.div {m k:Nat} {x y:Rat} (h:Sz m x) (h':Sz k y) (hy:y≠0):Sz (m+k) (x / y):=by
 rw [Rq.div_eq];exact h.mul (h'.inv hy)

theorem jdo {s t a b:Int} {x:Rat} {A B:Option Addr} {n c m d:Nat} {w:World} (hx:Rat.divInt a b=x) (h:Rep w s A n c a) (h':Rep w t B m d b) (hl:Lim a) (hl':Lim b) (hb:b≠0):
  Calls prog 114 #[iv s A n c,iv t B m d] w (jaa x w):=hx ▸ jpc h h' hl hl' hb

section
variable {s t u v:Int} {A B C D:Option Addr} {n c m d i k j l:Nat} {w:World} {x y:Rat} {p q:Nat}
theorem jpW (h:RepF w s A n c t B m d x) (h':RepF w u C i k v D j l y) (hs:Sz p x) (hs':Sz q y) (hpq:p+q < 100000):
  Calls prog 34 #[fv s A n c t B m d,fv u C i k v D j l] w fun e w'=>e= .returned (.int .i64 (Rq.cmpQ x y))∧Below w.heap.size w w':=by
 have HA:=qh h;have HB:=qh h';have L1:=qh (hs.limN (by omega));have L2:=qh (hs.limD (by omega));have L3:=qh (hs'.limN (by omega));have L4:=qh (hs'.limD (by omega));have L5:=qh (jaU (hs.mulND hs') hpq);have L6:=qh (jaU (hs.mulDN hs') hpq);rw [←Rq.cmp_eq x y];clear h h' hs hs' hpq;go_enter func34,ntmps34;go_wp2;refine ja1 (fun w'=>Below ((w.alloc (.cells #[.int .i64 s, .slice A n c, .int .i64 t, .slice B m d] 83)).alloc (.cells #[.int .i64 u, .slice C i k, .int .i64 v, .slice D j l] 83)).heap.size ((w.alloc (.cells #[.int .i64 s, .slice A n c, .int .i64 t, .slice B m d] 83)).alloc (.cells #[.int .i64 u, .slice C i k, .int .i64 v, .slice D j l] 83)) w') [11] (by kernel_rfl) ?_;refine tl [(0,[1], .pointer (some ⟨w.heap.size,0,none⟩)),(1,[4], .agg #[.int .i64 s, .slice A n c]),(2,[3], .pointer (some ⟨w.heap.size+1,2,none⟩)),(3,[4], .agg #[.int .i64 v, .slice D j l]),(5,[6], .pointer (some ⟨w.heap.size+1,0,none⟩)),(6,[9], .agg #[.int .i64 u, .slice C i k]),(7,[8], .pointer (some ⟨w.heap.size,2,none⟩)),(8,[9], .agg #[.int .i64 t, .slice B m d])] [_,_,_,_,_,_,_,_] rfl (by kernel_rfl) pk5 (by intros;simp only [tyq,ppq];go_simp) bq0 ?_;simp only [tlq,ppq];refine rd1 4 (by kernel_rfl) rfl (fun K hK=> ?_);go_simp;go_wp2_with (go_at_call 90;(with_reducible refine mi2 w (jbo (HA.o.num.below bi) (HB.o.den.below bi) L1.o L4.o) (by go_size) fun w1 s1 A1 n1 c1 hr1 hb1 hc1 hf1 z1_0 z1_1 _=> ?_))
 have sS1:=qh (bst bq0 hb1);refine hK.out _ _ (fun _=>sS1.o) ?_;clear hK K;refine rd1 9 (by kernel_rfl) rfl (fun K hK=> ?_);go_simp;go_wp2_with (go_at_call 90;(with_reducible refine mi2 w (jbo (HB.o.num.below bi) (HA.o.den.below bi) L3.o L2.o) (by go_size) fun w2 s2 A2 n2 c2 hr2 hb2 hc2 hf2 z2_0 z2_1 _=> ?_))
 have sS2:=qh (bst sS1.o hb2);refine hK.out _ _ (fun _=>sS2.o) ?_;clear hK K;refine rd1 10 (by kernel_rfl) rfl (fun K hK=> ?_);go_simp;go_wp2_with (go_at_call 91;(with_reducible refine mo2 w (jrx (by with_reducible repeat first|assumption|apply rZ|refine rP ?_ rfl (by simp [go_sem,hc2])) (by with_reducible repeat first|assumption|apply rZ|refine rP ?_ rfl (by simp [go_sem,hc2])) L5.o L6.o) (by go_size) fun w3 hb3 hc3 hf3 z3_0 z3_1 _=> ?_))
 have sS3:=qh (bst sS2.o hb3);refine hK.out _ _ (fun _=>sS3.o) ?_;clear hK K;refine rd1 11 (by kernel_rfl) rfl (fun K hK=> ?_);go_simp;refine hK.out _ _ (fun _=>bi) ?_;clear hK K;refine ja2 (by kernel_rfl) ?_ _;go_wp2;go_ret;exact ⟨rfl,bi⟩
end

theorem jaJ {w:World} {s t:Int} {A B:Option Addr} {n c m d:Nat} {x:Rat} {g:Bool} (hg:decide (x.den=1)=g) (h:RepF w s A n c t B m d x):Calls prog 112 #[fv s A n c t B m d] w fun e w'=>e= .returned (.bool g)∧Below w.heap.size w w':=hg ▸ jjz h
theorem jgb {w:World} {s a:Int} {A:Option Addr} {n c:Nat} {x:Rat} (hx:(a:Rat)=x) (h:Rep w s A n c a):Calls prog 92 #[iv s A n c] w (jaa x w):=hx ▸ ji8 h

section
variable {s t u v:Int} {A B C D:Option Addr} {n c m d i k j l:Nat} {w:World} {x y:Rat} {p q:Nat}
theorem jkx (h:RepF w s A n c t B m d x) (h':RepF w u C i k v D j l y) (hs:Sz p x) (hs':Sz q y) (hpq:p+q+1 < 100000) (hx:x.den=1) (hy:y.den=1):
  Calls prog 55 #[fv s A n c t B m d,fv u C i k v D j l] w (jaa (x+y) w):=by
 have HA:=qh h;have HB:=qh h';have L1:=qh (hs.limN (by omega));have L2:=qh (hs.limD (by omega));have L3:=qh (hs'.limN (by omega));have L4:=qh (hs'.limD (by omega));have L5:=qh (jaU (hs.mulND hs') (by omega));have L6:=qh (jaU (hs.mulDN hs') (by omega));have L7:=qh (jaU (hs.mulD hs') (by omega));have L8:=qh (jaU (hs.addN hs') hpq);have HE:=qh (Rq.add_eq x y).symm;have HN:=qh (jdw x y);have HX:=qh (show decide (x.den=1)=true by simp [hx]);have HY:=qh (show decide (y.den=1)=true by simp [hy]);have HW:=qh (Rq.add_whole hx hy).symm;obtain ⟨z,hz⟩:∃z,x+y=z:=⟨_,rfl⟩;rw [hz] at HE HW ⊢;clear h h' hs hs' hpq hx hy hz;go_enter func55,ntmps55
 go_wp2_with (first
  | (go_at_call 112;(with_reducible show Calls _ _ #[fv s A n c t B m d] _ _);(with_reducible refine mo3 w (jaJ HX.o (HA.o.below bi)) (by go_size) fun w1 hb1 hc1 hf1 z1_0 z1_1 z1_2 _=> ?_))
  | (go_at_call 112;(with_reducible show Calls _ _ #[fv u C i k v D j l] _ _);(with_reducible refine mo3 w (jaJ HY.o (HB.o.below bi)) (by go_size) fun w2 hb2 hc2 hf2 z2_0 z2_1 z2_2 _=> ?_))
  | (go_at_call 113;(with_reducible refine mi3 w (jdD (HA.o.num.below bi) (HB.o.num.below bi) L1.o L3.o) (by go_size) fun w4 s4 A4 n4 c4 hr4 hb4 hc4 hf4 z4_0 z4_1 z4_2 _=> ?_))
  | (go_at_call 92;(with_reducible refine mf3 w (jgb HW.o hr4) (by go_size) fun w3 s3 A3 n3 c3 t3 B3 m3 d3 hr3 hq3 hb3 hc3 hf3 z3_0 z3_1 z3_2 _=> ?_)))
 exact bodyPost_ret (v:= .agg #[.int .i64 (s3), .slice (A3) (n3) (c3), .int .i64 (t3), .slice (B3) (m3) (d3)]) (by simp [results,results55,go_sem,hc4,z4_2,hc3,z2_2,hc2,z1_2,hc1,z2_0,z2_1,z1_0,z1_1]) rfl (jan rfl (by constructor <;> (with_reducible repeat first|assumption|apply rZ|refine rP ?_ rfl (by simp [go_sem,hc4,z4_2,hc3,z2_2,hc2,z1_2,hc1,z2_0,z2_1,z1_0,z1_1]))) bi)

theorem jlb (h:RepF w s A n c t B m d x) (h':RepF w u C i k v D j l y) (hs:Sz p x) (hs':Sz q y) (hpq:p+q+1 < 100000) (hx:x.den≠1):
  Calls prog 55 #[fv s A n c t B m d,fv u C i k v D j l] w (jaa (x+y) w):=by
 have HA:=qh h;have HB:=qh h';have L1:=qh (hs.limN (by omega));have L2:=qh (hs.limD (by omega));have L3:=qh (hs'.limN (by omega));have L4:=qh (hs'.limD (by omega));have L5:=qh (jaU (hs.mulND hs') (by omega));have L6:=qh (jaU (hs.mulDN hs') (by omega));have L7:=qh (jaU (hs.mulD hs') (by omega));have L8:=qh (jaU (hs.addN hs') hpq);have HE:=qh (Rq.add_eq x y).symm;have HN:=qh (jdw x y);have HX:=qh (show decide (x.den=1)=false by simp [hx]);obtain ⟨z,hz⟩:∃z,x+y=z:=⟨_,rfl⟩;rw [hz] at HE ⊢;clear h h' hs hs' hpq hx hz;go_enter func55,ntmps55;go_wp2_with (go_at_call 112;(with_reducible refine mo3 w (jaJ HX.o (HA.o.below bi)) (by go_size) fun w1 hb1 hc1 hf1 z1_0 z1_1 z1_2 _=> ?_))
 refine ja1 (fun w'=>Below w1.heap.size w1 w') [17] (by kernel_rfl) ?_;refine tl [(0,[1], .pointer (some ⟨w.heap.size,0,none⟩)),(1,[4], .agg #[.int .i64 s, .slice A n c]),(2,[3], .pointer (some ⟨w.heap.size+1,2,none⟩)),(3,[4], .agg #[.int .i64 v, .slice D j l]),(5,[6], .pointer (some ⟨w.heap.size+1,0,none⟩)),(6,[9], .agg #[.int .i64 u, .slice C i k]),(7,[8], .pointer (some ⟨w.heap.size,2,none⟩)),(8,[9], .agg #[.int .i64 t, .slice B m d])] [_,_,_,_,_,_,_,_] rfl (by kernel_rfl) pk5 (by intros;simp only [tyq,ppq];go_simp) bq0 ?_;simp only [tlq,ppq];refine tl [(11,[12], .pointer (some ⟨w.heap.size,2,none⟩)),(12,[15], .agg #[.int .i64 t, .slice B m d]),(13,[14], .pointer (some ⟨w.heap.size+1,2,none⟩)),(14,[15], .agg #[.int .i64 v, .slice D j l])] [_,_,_,_] rfl (by kernel_rfl) pk5 (by intros;simp only [tyq,ppq];go_simp) bq0 ?_;simp only [tlq,ppq];refine rd1 4 (by kernel_rfl) rfl (fun K hK=> ?_);go_simp;go_wp2_with (go_at_call 90;(with_reducible refine mi3 w (jbo (HA.o.num.below bi) (HB.o.den.below bi) L1.o L4.o) (by go_size) fun w3 s3 A3 n3 c3 hr3 hb3 hc3 hf3 z3_0 z3_1 z3_2 _=> ?_))
 have sS3:=qh (bst bq0 hb3);refine hK.out _ _ (fun _=>sS3.o) ?_;clear hK K;refine rd1 9 (by kernel_rfl) rfl (fun K hK=> ?_);go_simp;go_wp2_with (go_at_call 90;(with_reducible refine mi3 w (jbo (HB.o.num.below bi) (HA.o.den.below bi) L3.o L2.o) (by go_size) fun w4 s4 A4 n4 c4 hr4 hb4 hc4 hf4 z4_0 z4_1 z4_2 _=> ?_))
 have sS4:=qh (bst sS3.o hb4);refine hK.out _ _ (fun _=>sS4.o) ?_;clear hK K;refine rd1 10 (by kernel_rfl) rfl (fun K hK=> ?_);go_simp;go_wp2_with (go_at_call 113;(with_reducible refine mi3 w (jdD (by with_reducible repeat first|assumption|apply rZ|refine rP ?_ rfl (by simp [go_sem,hc4])) (by with_reducible repeat first|assumption|apply rZ|refine rP ?_ rfl (by simp [go_sem,hc4])) L5.o L6.o) (by go_size) fun w5 s5 A5 n5 c5 hr5 hb5 hc5 hf5 z5_0 z5_1 z5_2 _=> ?_))
 have sS5:=qh (bst sS4.o hb5);refine hK.out _ _ (fun _=>sS5.o) ?_;clear hK K;refine rd1 15 (by kernel_rfl) rfl (fun K hK=> ?_);go_simp;go_wp2_with (go_at_call 90;(with_reducible refine mi3 w (jbo (HA.o.den.below bi) (HB.o.den.below bi) L2.o L4.o) (by go_size) fun w6 s6 A6 n6 c6 hr6 hb6 hc6 hf6 z6_0 z6_1 z6_2 _=> ?_))
 have sS6:=qh (bst sS5.o hb6);refine hK.out _ _ (fun _=>sS6.o) ?_;clear hK K;refine rd1 16 (by kernel_rfl) rfl (fun K hK=> ?_);go_simp;go_wp2_with (go_at_call 114;(with_reducible refine mf3 w (jdo HE.o (by with_reducible repeat first|assumption|apply rZ|refine rP ?_ rfl (by simp [go_sem,hc6])) (by with_reducible repeat first|assumption|apply rZ|refine rP ?_ rfl (by simp [go_sem,hc6])) L8.o L7.o HN.o) (by go_size) fun w7 s7 A7 n7 c7 t7 B7 m7 d7 hr7 hq7 hb7 hc7 hf7 z7_0 z7_1 z7_2 _=> ?_))
 have sS7:=qh (bst sS6.o hb7);refine hK.out _ _ (fun _=>sS7.o) ?_;clear hK K;refine rd1 17 (by kernel_rfl) rfl (fun K hK=> ?_);go_simp;refine hK.out _ _ (fun h=>(h (by decide)).elim) ?_;clear hK K;refine ja2 (by kernel_rfl) ?_ _;go_wp2;exact bodyPost_ret (v:= .agg #[.int .i64 (s7), .slice (A7) (n7) (c7), .int .i64 (t7), .slice (B7) (m7) (d7)]) (by simp [results,results55,go_sem,hc7,z6_2,hc6,z5_2,hc5,z4_2,hc4,z3_2,hc3,z1_2,hc1]) rfl (jan rfl (by constructor <;> (with_reducible repeat first|assumption|apply rZ|refine rP ?_ rfl (by simp [go_sem,hc7,z6_2,hc6,z5_2,hc5,z4_2,hc4,z3_2,hc3,z1_2,hc1]))) bi)
theorem jlo (h:RepF w s A n c t B m d x) (h':RepF w u C i k v D j l y) (hs:Sz p x) (hs':Sz q y) (hpq:p+q+1 < 100000) (hx:x.den=1) (hy:y.den≠1):
  Calls prog 55 #[fv s A n c t B m d,fv u C i k v D j l] w (jaa (x+y) w):=by
 have HA:=qh h;have HB:=qh h';have L1:=qh (hs.limN (by omega));have L2:=qh (hs.limD (by omega));have L3:=qh (hs'.limN (by omega));have L4:=qh (hs'.limD (by omega));have L5:=qh (jaU (hs.mulND hs') (by omega));have L6:=qh (jaU (hs.mulDN hs') (by omega));have L7:=qh (jaU (hs.mulD hs') (by omega));have L8:=qh (jaU (hs.addN hs') hpq);have HE:=qh (Rq.add_eq x y).symm;have HN:=qh (jdw x y);have HX:=qh (show decide (x.den=1)=true by simp [hx]);have HY:=qh (show decide (y.den=1)=false by simp [hy]);obtain ⟨z,hz⟩:∃z,x+y=z:=⟨_,rfl⟩;rw [hz] at HE ⊢;clear h h' hs hs' hpq hx hy hz;go_enter func55,ntmps55
 go_wp2_with (first
  | (go_at_call 112;(with_reducible show Calls _ _ #[fv s A n c t B m d] _ _);(with_reducible refine mo3 w (jaJ HX.o (HA.o.below bi)) (by go_size) fun w1 hb1 hc1 hf1 z1_0 z1_1 z1_2 _=> ?_))
  | (go_at_call 112;(with_reducible show Calls _ _ #[fv u C i k v D j l] _ _);(with_reducible refine mo3 w (jaJ HY.o (HB.o.below bi)) (by go_size) fun w2 hb2 hc2 hf2 z2_0 z2_1 z2_2 _=> ?_)))
 refine ja1 (fun w'=>Below w2.heap.size w2 w') [17] (by kernel_rfl) ?_;refine tl [(0,[1], .pointer (some ⟨w.heap.size,0,none⟩)),(1,[4], .agg #[.int .i64 s, .slice A n c]),(2,[3], .pointer (some ⟨w.heap.size+1,2,none⟩)),(3,[4], .agg #[.int .i64 v, .slice D j l]),(5,[6], .pointer (some ⟨w.heap.size+1,0,none⟩)),(6,[9], .agg #[.int .i64 u, .slice C i k]),(7,[8], .pointer (some ⟨w.heap.size,2,none⟩)),(8,[9], .agg #[.int .i64 t, .slice B m d])] [_,_,_,_,_,_,_,_] rfl (by kernel_rfl) pk5 (by intros;simp only [tyq,ppq];go_simp) bq0 ?_;simp only [tlq,ppq];refine tl [(11,[12], .pointer (some ⟨w.heap.size,2,none⟩)),(12,[15], .agg #[.int .i64 t, .slice B m d]),(13,[14], .pointer (some ⟨w.heap.size+1,2,none⟩)),(14,[15], .agg #[.int .i64 v, .slice D j l])] [_,_,_,_] rfl (by kernel_rfl) pk5 (by intros;simp only [tyq,ppq];go_simp) bq0 ?_;simp only [tlq,ppq];refine rd1 4 (by kernel_rfl) rfl (fun K hK=> ?_);go_simp;go_wp2_with (go_at_call 90;(with_reducible refine mi3 w (jbo (HA.o.num.below bi) (HB.o.den.below bi) L1.o L4.o) (by go_size) fun w3 s3 A3 n3 c3 hr3 hb3 hc3 hf3 z3_0 z3_1 z3_2 _=> ?_))
 have sS3:=qh (bst bq0 hb3);refine hK.out _ _ (fun _=>sS3.o) ?_;clear hK K;refine rd1 9 (by kernel_rfl) rfl (fun K hK=> ?_);go_simp;go_wp2_with (go_at_call 90;(with_reducible refine mi3 w (jbo (HB.o.num.below bi) (HA.o.den.below bi) L3.o L2.o) (by go_size) fun w4 s4 A4 n4 c4 hr4 hb4 hc4 hf4 z4_0 z4_1 z4_2 _=> ?_))
 have sS4:=qh (bst sS3.o hb4);refine hK.out _ _ (fun _=>sS4.o) ?_;clear hK K;refine rd1 10 (by kernel_rfl) rfl (fun K hK=> ?_);go_simp;go_wp2_with (go_at_call 113;(with_reducible refine mi3 w (jdD (by with_reducible repeat first|assumption|apply rZ|refine rP ?_ rfl (by simp [go_sem,hc4])) (by with_reducible repeat first|assumption|apply rZ|refine rP ?_ rfl (by simp [go_sem,hc4])) L5.o L6.o) (by go_size) fun w5 s5 A5 n5 c5 hr5 hb5 hc5 hf5 z5_0 z5_1 z5_2 _=> ?_))
 have sS5:=qh (bst sS4.o hb5);refine hK.out _ _ (fun _=>sS5.o) ?_;clear hK K;refine rd1 15 (by kernel_rfl) rfl (fun K hK=> ?_);go_simp;go_wp2_with (go_at_call 90;(with_reducible refine mi3 w (jbo (HA.o.den.below bi) (HB.o.den.below bi) L2.o L4.o) (by go_size) fun w6 s6 A6 n6 c6 hr6 hb6 hc6 hf6 z6_0 z6_1 z6_2 _=> ?_))
 have sS6:=qh (bst sS5.o hb6);refine hK.out _ _ (fun _=>sS6.o) ?_;clear hK K;refine rd1 16 (by kernel_rfl) rfl (fun K hK=> ?_);go_simp;go_wp2_with (go_at_call 114;(with_reducible refine mf3 w (jdo HE.o (by with_reducible repeat first|assumption|apply rZ|refine rP ?_ rfl (by simp [go_sem,hc6])) (by with_reducible repeat first|assumption|apply rZ|refine rP ?_ rfl (by simp [go_sem,hc6])) L8.o L7.o HN.o) (by go_size) fun w7 s7 A7 n7 c7 t7 B7 m7 d7 hr7 hq7 hb7 hc7 hf7 z7_0 z7_1 z7_2 _=> ?_))
 have sS7:=qh (bst sS6.o hb7);refine hK.out _ _ (fun _=>sS7.o) ?_;clear hK K;refine rd1 17 (by kernel_rfl) rfl (fun K hK=> ?_);go_simp;refine hK.out _ _ (fun h=>(h (by decide)).elim) ?_;clear hK K;refine ja2 (by kernel_rfl) ?_ _;go_wp2;exact bodyPost_ret (v:= .agg #[.int .i64 (s7), .slice (A7) (n7) (c7), .int .i64 (t7), .slice (B7) (m7) (d7)]) (by simp [results,results55,go_sem,hc2,z2_2,hc7,z6_2,hc6,z5_2,hc5,z4_2,hc4,z3_2,hc3,z1_2,hc1]) rfl (jan rfl (by constructor <;> (with_reducible repeat first|assumption|apply rZ|refine rP ?_ rfl (by simp [go_sem,hc2,z2_2,hc7,z6_2,hc6,z5_2,hc5,z4_2,hc4,z3_2,hc3,z1_2,hc1]))) bi)
theorem jpJ (h:RepF w s A n c t B m d x) (h':RepF w u C i k v D j l y) (hs:Sz p x) (hs':Sz q y) (hpq:p+q+1 < 100000):
  Calls prog 55 #[fv s A n c t B m d,fv u C i k v D j l] w (jaa (x+y) w):=by
 by_cases hx:x.den=1
 ·by_cases hy:y.den=1
  ·exact jkx h h' hs hs' hpq hx hy
  ·exact jlo h h' hs hs' hpq hx hy
 ·exact jlb h h' hs hs' hpq hx
end
end Go.Proofs.YtonifflnjjcanaaGreatDoor
