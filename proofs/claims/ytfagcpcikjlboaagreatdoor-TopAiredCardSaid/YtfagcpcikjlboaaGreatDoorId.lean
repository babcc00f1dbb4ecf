/- Parts. -/
import Derived.Test.YtfagcpcikjlboaaGreatDoorDpG
set_option linter.all false
set_option maxRecDepth 100000
set_option maxHeartbeats 8000000
namespace Go.Proofs.YtfagcpcikjlboaaGreatDoor
open Go Go.RowKit Go.Proofs.Tryz

theorem jb6 {z:Int} {g:Bool} {x:Nat} (hg:decide (z < 0)=g) (hx:z.natAbs=x):z=sg g x:=by
 subst hg hx;exact (jht z).symm
theorem jah {s z:Int} {A:Option Addr} {n c:Nat} {w:World} {g:Bool} {x:Nat} (h:Rep w s A n c z) (hg:decide (z < 0)=g) (hx:z.natAbs=x):
  Calls prog 129 #[.agg #[.int .i64 s, .slice A n c]] w fun e w'=>∃A n c,e= .returned (.tuple #[.bool g, .slice A n c])∧NumW w' A n c x∧Below w.heap.size w w':=by
 subst hg hx;exact jdp h
theorem jcA {x y:Nat} {z:Int} (h:sgn ((x:Int) - (y:Int))=z) {A A':Option Addr} {n c n' c':Nat} {w:World} (h1:NumW w A n c x) (h2:NumW w A' n' c' y):
  Calls prog 173 #[.slice A n c, .slice A' n' c'] w fun e w'=>e= .returned (.int .i64 z)∧Below w.heap.size w w':=by
 subst h;exact je1 h1 h2



section
variable {s a t b:Int} {A B:Option Addr} {n c m d:Nat} {w:World}
theorem jh9 {p:Addr} {g g':Bool} (h:Rep w s (some p) n c a) (h':Rep w t (B) m d b) (hl:Lim a) (hl':Lim b) (hg:decide (a < 0)=g) (hg':decide (b < 0)=g') (e:g=g'):
  Calls prog 143 #[iv s (some p) n c,iv t (B) m d] w (ja7 (a+b) w):=by
 have qe:=jak;have qb:(g==g')=true:=by rw [e];simp
 have HR1:=qh (show ∀W,Below w.heap.size w W→Rep W (s) (some p) (n) (c) (a) from fun W hb=>h.below hb);have HR2:=qh (show ∀W,Below w.heap.size w W→Rep W (t) (B) (m) (d) (b) from fun W hb=>h'.below hb);have HL1:=qh hl.few;have HL2:=qh hl'.few;obtain ⟨x,hx⟩:∃x,(a).natAbs=x:=⟨_,rfl⟩;obtain ⟨y,hy⟩:∃y,(b).natAbs=y:=⟨_,rfl⟩;rw [hx] at HL1;rw [hy] at HL2;have HX:=qh hx;have HY:=qh hy;clear h h' hl hl' hx hy;have HG:=qh hg;have HG':=qh hg';have HE:=qh e;clear hg hg' e;go_enter func143,ntmps143
 go_wp2_with (first
  | (go_at_call 129;(with_reducible refine (jah (HR1.o _ bi) HG.o HX.o).mono ?_);rintro e1 w1 ⟨A1,n1,c1,rfl,hr1,hb1⟩;obtain ⟨hc1,hf1,z1_0,z1_1,z1_2,_⟩:=bc3 w hb1 (by go_size))
  | (go_at_call 129;(with_reducible refine (jah (HR2.o _ bi) HG'.o HY.o).mono ?_);rintro e2 w2 ⟨A2,n2,c2,rfl,hr2,hb2⟩;obtain ⟨hc2,hf2,z2_0,z2_1,z2_2,_⟩:=bc3 w hb2 (by go_size))
  | (go_at_call 172;(with_reducible refine (jcj (hr1.below hb2) hr2 HL1.o HL2.o).mono ?_);rintro e3 w3 ⟨A3,n3,c3,rfl,hr3,hb3⟩;obtain ⟨hc3,hf3,z3_0,z3_1,z3_2,_⟩:=bc3 w hb3 (by go_size))
  | (go_at_call 130;(with_reducible refine mi3 w (jas hr3) (by go_size) fun w4 s4 A4 n4 c4 hr4 hb4 hc4 hf4 z4_0 z4_1 z4_2 _=> ?_)))
 exact bodyPost_ret (v:= .agg #[.int .i64 (s4), .slice (A4) (n4) (c4)]) (by simp [results,results143,go_sem,hc4,z3_2,hc3,z2_2,hc2,z1_2,hc1]) rfl (jaf rfl ((hr4.put (x:=0) (B:=none) (m:=0) (d:=0) rfl (by simp [go_sem,hc4,z3_2,hc3,z2_2,hc2,z1_2,hc1]) (by simp [go_sem,hc4,z3_2,hc3,z2_2,hc2,z1_2,hc1])).to (by have h1:=jb6 HG.o HX.o;have h2:=jb6 HG'.o HY.o;have h3:=HE.o;((subst h3;rw [h1,h2];cases g <;> simp [sg] <;> omega)))) bi)
theorem jjr {p:Addr} {g g':Bool} (h:Rep w s (some p) n c a) (h':Rep w t (B) m d b) (hl:Lim a) (hl':Lim b) (hg:decide (a < 0)=g) (hg':decide (b < 0)=g') (e:g≠g') (hc:b.natAbs≤a.natAbs):
  Calls prog 143 #[iv s (some p) n c,iv t (B) m d] w (ja7 (a+b) w):=by
 have qe:=jak;have qb:(g==g')=false:=by simp;exact e
 have hz:sgn ((a.natAbs:Int) - (b.natAbs:Int))=if a.natAbs=b.natAbs then 0 else 1:=by unfold sgn;split <;> split <;> omega
 obtain ⟨z,hzz,hz0⟩:∃z,sgn ((a.natAbs:Int) - (b.natAbs:Int))=z∧0≤z:=⟨_,hz,by split <;> omega⟩;clear hz;have HR1:=qh (show ∀W,Below w.heap.size w W→Rep W (s) (some p) (n) (c) (a) from fun W hb=>h.below hb);have HR2:=qh (show ∀W,Below w.heap.size w W→Rep W (t) (B) (m) (d) (b) from fun W hb=>h'.below hb);have HL1:=qh hl.few;have HL2:=qh hl'.few;obtain ⟨x,hx⟩:∃x,(a).natAbs=x:=⟨_,rfl⟩;obtain ⟨y,hy⟩:∃y,(b).natAbs=y:=⟨_,rfl⟩;rw [hx] at HL1;rw [hy] at HL2;have HX:=qh hx;have HY:=qh hy;clear h h' hl hl' hx hy;have HG:=qh hg;have HG':=qh hg';have HE:=qh e;rw [HX.o,HY.o] at hc hzz;have HC:=qh hc;have HZ:=qh hzz;clear hg hg' e hc hzz;go_enter func143,ntmps143
 go_wp2_with (first
  | (go_at_call 129;(with_reducible refine (jah (HR1.o _ bi) HG.o HX.o).mono ?_);rintro e1 w1 ⟨A1,n1,c1,rfl,hr1,hb1⟩;obtain ⟨hc1,hf1,z1_0,z1_1,z1_2,_⟩:=bc3 w hb1 (by go_size))
  | (go_at_call 129;(with_reducible refine (jah (HR2.o _ bi) HG'.o HY.o).mono ?_);rintro e2 w2 ⟨A2,n2,c2,rfl,hr2,hb2⟩;obtain ⟨hc2,hf2,z2_0,z2_1,z2_2,_⟩:=bc3 w hb2 (by go_size))
  | (go_at_call 173;(with_reducible refine mo3 w (jcA HZ.o (hr1.below hb2) hr2) (by go_size) fun w5 hb5 hc5 hf5 z5_0 z5_1 z5_2 _=> ?_))
  | (go_at_call 174;(with_reducible refine (jaT (((hr1.below hb2).below hb5)) (hr2.below hb5) HL1.o HC.o).mono ?_);rintro e3 w3 ⟨A3,n3,c3,rfl,hr3,hb3⟩;obtain ⟨hc3,hf3,z3_0,z3_1,z3_2,_⟩:=bc3 w hb3 (by go_size))
  | (go_at_call 130;(with_reducible refine mi3 w (jas hr3) (by go_size) fun w4 s4 A4 n4 c4 hr4 hb4 hc4 hf4 z4_0 z4_1 z4_2 _=> ?_)))
 exact bodyPost_ret (v:= .agg #[.int .i64 (s4), .slice (A4) (n4) (c4)]) (by simp [results,results143,go_sem,hc4,z3_2,hc3,z5_2,hc5,z2_2,hc2,z1_2,hc1]) rfl (jaf rfl ((hr4.put (x:=0) (B:=none) (m:=0) (d:=0) rfl (by simp [go_sem,hc4,z3_2,hc3,z5_2,hc5,z2_2,hc2,z1_2,hc1]) (by simp [go_sem,hc4,z3_2,hc3,z5_2,hc5,z2_2,hc2,z1_2,hc1])).to (by have h1:=jb6 HG.o HX.o;have h2:=jb6 HG'.o HY.o;have h3:=HE.o;have h4:=HC.o;((rw [h1,h2];cases g <;> cases g' <;> simp [sg] at h3 ⊢ <;> omega)))) bi)
theorem jiu {p:Addr} {g g':Bool} (h:Rep w s (some p) n c a) (h':Rep w t (B) m d b) (hl:Lim a) (hl':Lim b) (hg:decide (a < 0)=g) (hg':decide (b < 0)=g') (e:g≠g') (hc:a.natAbs < b.natAbs):
  Calls prog 143 #[iv s (some p) n c,iv t (B) m d] w (ja7 (a+b) w):=by
 have qe:=jak;have qb:(g==g')=false:=by simp;exact e
 have hzz:sgn ((a.natAbs:Int) - (b.natAbs:Int))= -1:=by unfold sgn;split <;> omega
 have HR1:=qh (show ∀W,Below w.heap.size w W→Rep W (s) (some p) (n) (c) (a) from fun W hb=>h.below hb);have HR2:=qh (show ∀W,Below w.heap.size w W→Rep W (t) (B) (m) (d) (b) from fun W hb=>h'.below hb);have HL1:=qh hl.few;have HL2:=qh hl'.few;obtain ⟨x,hx⟩:∃x,(a).natAbs=x:=⟨_,rfl⟩;obtain ⟨y,hy⟩:∃y,(b).natAbs=y:=⟨_,rfl⟩;rw [hx] at HL1;rw [hy] at HL2;have HX:=qh hx;have HY:=qh hy;clear h h' hl hl' hx hy;have HG:=qh hg;have HG':=qh hg';have HE:=qh e;rw [HX.o,HY.o] at hc hzz;have HC:=qh hc;have HZ:=qh hzz;clear hg hg' e hc hzz;go_enter func143,ntmps143
 go_wp2_with (first
  | (go_at_call 129;(with_reducible refine (jah (HR1.o _ bi) HG.o HX.o).mono ?_);rintro e1 w1 ⟨A1,n1,c1,rfl,hr1,hb1⟩;obtain ⟨hc1,hf1,z1_0,z1_1,z1_2,_⟩:=bc3 w hb1 (by go_size))
  | (go_at_call 129;(with_reducible refine (jah (HR2.o _ bi) HG'.o HY.o).mono ?_);rintro e2 w2 ⟨A2,n2,c2,rfl,hr2,hb2⟩;obtain ⟨hc2,hf2,z2_0,z2_1,z2_2,_⟩:=bc3 w hb2 (by go_size))
  | (go_at_call 173;(with_reducible refine mo3 w (jcA HZ.o (hr1.below hb2) hr2) (by go_size) fun w5 hb5 hc5 hf5 z5_0 z5_1 z5_2 _=> ?_))
  | (go_at_call 174;(with_reducible refine (jaT (hr2.below hb5) ((hr1.below hb2).below hb5) HL2.o (Nat.le_of_lt HC.o)).mono ?_);rintro e3 w3 ⟨A3,n3,c3,rfl,hr3,hb3⟩;obtain ⟨hc3,hf3,z3_0,z3_1,z3_2,_⟩:=bc3 w hb3 (by go_size))
  | (go_at_call 130;(with_reducible refine mi3 w (jas hr3) (by go_size) fun w4 s4 A4 n4 c4 hr4 hb4 hc4 hf4 z4_0 z4_1 z4_2 _=> ?_)))
 exact bodyPost_ret (v:= .agg #[.int .i64 (s4), .slice (A4) (n4) (c4)]) (by simp [results,results143,go_sem,hc4,z3_2,hc3,z5_2,hc5,z2_2,hc2,z1_2,hc1]) rfl (jaf rfl ((hr4.put (x:=0) (B:=none) (m:=0) (d:=0) rfl (by simp [go_sem,hc4,z3_2,hc3,z5_2,hc5,z2_2,hc2,z1_2,hc1]) (by simp [go_sem,hc4,z3_2,hc3,z5_2,hc5,z2_2,hc2,z1_2,hc1])).to (by have h1:=jb6 HG.o HX.o;have h2:=jb6 HG'.o HY.o;have h3:=HE.o;have h4:=HC.o;((rw [h1,h2];cases g <;> cases g' <;> simp [sg] at h3 ⊢ <;> omega)))) bi)
theorem jhC {p:Addr} (h:Rep w s (some p) n c a) (h':Rep w t (B) m d b) (hl:Lim a) (hl':Lim b):
  Calls prog 143 #[iv s (some p) n c,iv t (B) m d] w (ja7 (a+b) w):=by
 by_cases e:decide (a < 0)=decide (b < 0)
 ·exact jh9 h h' hl hl' rfl rfl e
 ·by_cases hc:b.natAbs≤a.natAbs
  ·exact jjr h h' hl hl' rfl rfl e hc
  ·exact jiu h h' hl hl' rfl rfl e (by omega)
theorem jfn {q:Addr} {g g':Bool} (h:Rep w s (none) n c a) (h':Rep w t (some q) m d b) (hl:Lim a) (hl':Lim b) (hg:decide (a < 0)=g) (hg':decide (b < 0)=g') (e:g=g'):
  Calls prog 143 #[iv s (none) n c,iv t (some q) m d] w (ja7 (a+b) w):=by
 have qe:=jak;have qb:(g==g')=true:=by rw [e];simp
 have HR1:=qh (show ∀W,Below w.heap.size w W→Rep W (s) (none) (n) (c) (a) from fun W hb=>h.below hb);have HR2:=qh (show ∀W,Below w.heap.size w W→Rep W (t) (some q) (m) (d) (b) from fun W hb=>h'.below hb);have HL1:=qh hl.few;have HL2:=qh hl'.few;obtain ⟨x,hx⟩:∃x,(a).natAbs=x:=⟨_,rfl⟩;obtain ⟨y,hy⟩:∃y,(b).natAbs=y:=⟨_,rfl⟩;rw [hx] at HL1;rw [hy] at HL2;have HX:=qh hx;have HY:=qh hy;clear h h' hl hl' hx hy;have HG:=qh hg;have HG':=qh hg';have HE:=qh e;clear hg hg' e;go_enter func143,ntmps143
 go_wp2_with (first
  | (go_at_call 129;(with_reducible refine (jah (HR1.o _ bi) HG.o HX.o).mono ?_);rintro e1 w1 ⟨A1,n1,c1,rfl,hr1,hb1⟩;obtain ⟨hc1,hf1,z1_0,z1_1,z1_2,_⟩:=bc3 w hb1 (by go_size))
  | (go_at_call 129;(with_reducible refine (jah (HR2.o _ bi) HG'.o HY.o).mono ?_);rintro e2 w2 ⟨A2,n2,c2,rfl,hr2,hb2⟩;obtain ⟨hc2,hf2,z2_0,z2_1,z2_2,_⟩:=bc3 w hb2 (by go_size))
  | (go_at_call 172;(with_reducible refine (jcj (hr1.below hb2) hr2 HL1.o HL2.o).mono ?_);rintro e3 w3 ⟨A3,n3,c3,rfl,hr3,hb3⟩;obtain ⟨hc3,hf3,z3_0,z3_1,z3_2,_⟩:=bc3 w hb3 (by go_size))
  | (go_at_call 130;(with_reducible refine mi3 w (jas hr3) (by go_size) fun w4 s4 A4 n4 c4 hr4 hb4 hc4 hf4 z4_0 z4_1 z4_2 _=> ?_)))
 exact bodyPost_ret (v:= .agg #[.int .i64 (s4), .slice (A4) (n4) (c4)]) (by simp [results,results143,go_sem,hc4,z3_2,hc3,z2_2,hc2,z1_2,hc1]) rfl (jaf rfl ((hr4.put (x:=0) (B:=none) (m:=0) (d:=0) rfl (by simp [go_sem,hc4,z3_2,hc3,z2_2,hc2,z1_2,hc1]) (by simp [go_sem,hc4,z3_2,hc3,z2_2,hc2,z1_2,hc1])).to (by have h1:=jb6 HG.o HX.o;have h2:=jb6 HG'.o HY.o;have h3:=HE.o;((subst h3;rw [h1,h2];cases g <;> simp [sg] <;> omega)))) bi)
theorem jhq {q:Addr} {g g':Bool} (h:Rep w s (none) n c a) (h':Rep w t (some q) m d b) (hl:Lim a) (hl':Lim b) (hg:decide (a < 0)=g) (hg':decide (b < 0)=g') (e:g≠g') (hc:b.natAbs≤a.natAbs):
  Calls prog 143 #[iv s (none) n c,iv t (some q) m d] w (ja7 (a+b) w):=by
 have qe:=jak;have qb:(g==g')=false:=by simp;exact e
 have hz:sgn ((a.natAbs:Int) - (b.natAbs:Int))=if a.natAbs=b.natAbs then 0 else 1:=by unfold sgn;split <;> split <;> omega
 obtain ⟨z,hzz,hz0⟩:∃z,sgn ((a.natAbs:Int) - (b.natAbs:Int))=z∧0≤z:=⟨_,hz,by split <;> omega⟩;clear hz;have HR1:=qh (show ∀W,Below w.heap.size w W→Rep W (s) (none) (n) (c) (a) from fun W hb=>h.below hb);have HR2:=qh (show ∀W,Below w.heap.size w W→Rep W (t) (some q) (m) (d) (b) from fun W hb=>h'.below hb);have HL1:=qh hl.few;have HL2:=qh hl'.few;obtain ⟨x,hx⟩:∃x,(a).natAbs=x:=⟨_,rfl⟩;obtain ⟨y,hy⟩:∃y,(b).natAbs=y:=⟨_,rfl⟩;rw [hx] at HL1;rw [hy] at HL2;have HX:=qh hx;have HY:=qh hy;clear h h' hl hl' hx hy;have HG:=qh hg;have HG':=qh hg';have HE:=qh e;rw [HX.o,HY.o] at hc hzz;have HC:=qh hc;have HZ:=qh hzz;clear hg hg' e hc hzz;go_enter func143,ntmps143
 go_wp2_with (first
  | (go_at_call 129;(with_reducible refine (jah (HR1.o _ bi) HG.o HX.o).mono ?_);rintro e1 w1 ⟨A1,n1,c1,rfl,hr1,hb1⟩;obtain ⟨hc1,hf1,z1_0,z1_1,z1_2,_⟩:=bc3 w hb1 (by go_size))
  | (go_at_call 129;(with_reducible refine (jah (HR2.o _ bi) HG'.o HY.o).mono ?_);rintro e2 w2 ⟨A2,n2,c2,rfl,hr2,hb2⟩;obtain ⟨hc2,hf2,z2_0,z2_1,z2_2,_⟩:=bc3 w hb2 (by go_size))
  | (go_at_call 173;(with_reducible refine mo3 w (jcA HZ.o (hr1.below hb2) hr2) (by go_size) fun w5 hb5 hc5 hf5 z5_0 z5_1 z5_2 _=> ?_))
  | (go_at_call 174;(with_reducible refine (jaT (((hr1.below hb2).below hb5)) (hr2.below hb5) HL1.o HC.o).mono ?_);rintro e3 w3 ⟨A3,n3,c3,rfl,hr3,hb3⟩;obtain ⟨hc3,hf3,z3_0,z3_1,z3_2,_⟩:=bc3 w hb3 (by go_size))
  | (go_at_call 130;(with_reducible refine mi3 w (jas hr3) (by go_size) fun w4 s4 A4 n4 c4 hr4 hb4 hc4 hf4 z4_0 z4_1 z4_2 _=> ?_)))
 exact bodyPost_ret (v:= .agg #[.int .i64 (s4), .slice (A4) (n4) (c4)]) (by simp [results,results143,go_sem,hc4,z3_2,hc3,z5_2,hc5,z2_2,hc2,z1_2,hc1]) rfl (jaf rfl ((hr4.put (x:=0) (B:=none) (m:=0) (d:=0) rfl (by simp [go_sem,hc4,z3_2,hc3,z5_2,hc5,z2_2,hc2,z1_2,hc1]) (by simp [go_sem,hc4,z3_2,hc3,z5_2,hc5,z2_2,hc2,z1_2,hc1])).to (by have h1:=jb6 HG.o HX.o;have h2:=jb6 HG'.o HY.o;have h3:=HE.o;have h4:=HC.o;((rw [h1,h2];cases g <;> cases g' <;> simp [sg] at h3 ⊢ <;> omega)))) bi)
theorem ji9 {q:Addr} {g g':Bool} (h:Rep w s (none) n c a) (h':Rep w t (some q) m d b) (hl:Lim a) (hl':Lim b) (hg:decide (a < 0)=g) (hg':decide (b < 0)=g') (e:g≠g') (hc:a.natAbs < b.natAbs):
  Calls prog 143 #[iv s (none) n c,iv t (some q) m d] w (ja7 (a+b) w):=by
 have qe:=jak;have qb:(g==g')=false:=by simp;exact e
 have hzz:sgn ((a.natAbs:Int) - (b.natAbs:Int))= -1:=by unfold sgn;split <;> omega
 have HR1:=qh (show ∀W,Below w.heap.size w W→Rep W (s) (none) (n) (c) (a) from fun W hb=>h.below hb);have HR2:=qh (show ∀W,Below w.heap.size w W→Rep W (t) (some q) (m) (d) (b) from fun W hb=>h'.below hb);have HL1:=qh hl.few;have HL2:=qh hl'.few;obtain ⟨x,hx⟩:∃x,(a).natAbs=x:=⟨_,rfl⟩;obtain ⟨y,hy⟩:∃y,(b).natAbs=y:=⟨_,rfl⟩;rw [hx] at HL1;rw [hy] at HL2;have HX:=qh hx;have HY:=qh hy;clear h h' hl hl' hx hy;have HG:=qh hg;have HG':=qh hg';have HE:=qh e;rw [HX.o,HY.o] at hc hzz;have HC:=qh hc;have HZ:=qh hzz;clear hg hg' e hc hzz;go_enter func143,ntmps143
 go_wp2_with (first
  | (go_at_call 129;(with_reducible refine (jah (HR1.o _ bi) HG.o HX.o).mono ?_);rintro e1 w1 ⟨A1,n1,c1,rfl,hr1,hb1⟩;obtain ⟨hc1,hf1,z1_0,z1_1,z1_2,_⟩:=bc3 w hb1 (by go_size))
  | (go_at_call 129;(with_reducible refine (jah (HR2.o _ bi) HG'.o HY.o).mono ?_);rintro e2 w2 ⟨A2,n2,c2,rfl,hr2,hb2⟩;obtain ⟨hc2,hf2,z2_0,z2_1,z2_2,_⟩:=bc3 w hb2 (by go_size))
  | (go_at_call 173;(with_reducible refine mo3 w (jcA HZ.o (hr1.below hb2) hr2) (by go_size) fun w5 hb5 hc5 hf5 z5_0 z5_1 z5_2 _=> ?_))
  | (go_at_call 174;(with_reducible refine (jaT (hr2.below hb5) ((hr1.below hb2).below hb5) HL2.o (Nat.le_of_lt HC.o)).mono ?_);rintro e3 w3 ⟨A3,n3,c3,rfl,hr3,hb3⟩;obtain ⟨hc3,hf3,z3_0,z3_1,z3_2,_⟩:=bc3 w hb3 (by go_size))
  | (go_at_call 130;(with_reducible refine mi3 w (jas hr3) (by go_size) fun w4 s4 A4 n4 c4 hr4 hb4 hc4 hf4 z4_0 z4_1 z4_2 _=> ?_)))
 exact bodyPost_ret (v:= .agg #[.int .i64 (s4), .slice (A4) (n4) (c4)]) (by simp [results,results143,go_sem,hc4,z3_2,hc3,z5_2,hc5,z2_2,hc2,z1_2,hc1]) rfl (jaf rfl ((hr4.put (x:=0) (B:=none) (m:=0) (d:=0) rfl (by simp [go_sem,hc4,z3_2,hc3,z5_2,hc5,z2_2,hc2,z1_2,hc1]) (by simp [go_sem,hc4,z3_2,hc3,z5_2,hc5,z2_2,hc2,z1_2,hc1])).to (by have h1:=jb6 HG.o HX.o;have h2:=jb6 HG'.o HY.o;have h3:=HE.o;have h4:=HC.o;((rw [h1,h2];cases g <;> cases g' <;> simp [sg] at h3 ⊢ <;> omega)))) bi)
theorem jgH {q:Addr} (h:Rep w s (none) n c a) (h':Rep w t (some q) m d b) (hl:Lim a) (hl':Lim b):
  Calls prog 143 #[iv s (none) n c,iv t (some q) m d] w (ja7 (a+b) w):=by
 by_cases e:decide (a < 0)=decide (b < 0)
 ·exact jfn h h' hl hl' rfl rfl e
 ·by_cases hc:b.natAbs≤a.natAbs
  ·exact jhq h h' hl hl' rfl rfl e hc
  ·exact ji9 h h' hl hl' rfl rfl e (by omega)
theorem jgF {cc:Int} (hw:wrap64 (s+t)=cc) (qo:(decide (s < cc)==decide (0 < t))=false) {g g':Bool} (h:Rep w s (none) n c a) (h':Rep w t (none) m d b) (hl:Lim a) (hl':Lim b) (hg:decide (a < 0)=g) (hg':decide (b < 0)=g') (e:g=g'):
  Calls prog 143 #[iv s (none) n c,iv t (none) m d] w (ja7 (a+b) w):=by
 have qe:=jak;have qb:(g==g')=true:=by rw [e];simp
 have HR1:=qh (show ∀W,Below w.heap.size w W→Rep W (s) (none) (n) (c) (a) from fun W hb=>h.below hb);have HR2:=qh (show ∀W,Below w.heap.size w W→Rep W (t) (none) (m) (d) (b) from fun W hb=>h'.below hb);have HL1:=qh hl.few;have HL2:=qh hl'.few;obtain ⟨x,hx⟩:∃x,(a).natAbs=x:=⟨_,rfl⟩;obtain ⟨y,hy⟩:∃y,(b).natAbs=y:=⟨_,rfl⟩;rw [hx] at HL1;rw [hy] at HL2;have HX:=qh hx;have HY:=qh hy;clear h h' hl hl' hx hy;have HG:=qh hg;have HG':=qh hg';have HE:=qh e;clear hg hg' e;go_enter func143,ntmps143
 go_wp2_with (first
  | (go_at_call 129;(with_reducible refine (jah (HR1.o _ bi) HG.o HX.o).mono ?_);rintro e1 w1 ⟨A1,n1,c1,rfl,hr1,hb1⟩;obtain ⟨hc1,hf1,z1_0,z1_1,z1_2,_⟩:=bc3 w hb1 (by go_size))
  | (go_at_call 129;(with_reducible refine (jah (HR2.o _ bi) HG'.o HY.o).mono ?_);rintro e2 w2 ⟨A2,n2,c2,rfl,hr2,hb2⟩;obtain ⟨hc2,hf2,z2_0,z2_1,z2_2,_⟩:=bc3 w hb2 (by go_size))
  | (go_at_call 172;(with_reducible refine (jcj (hr1.below hb2) hr2 HL1.o HL2.o).mono ?_);rintro e3 w3 ⟨A3,n3,c3,rfl,hr3,hb3⟩;obtain ⟨hc3,hf3,z3_0,z3_1,z3_2,_⟩:=bc3 w hb3 (by go_size))
  | (go_at_call 130;(with_reducible refine mi3 w (jas hr3) (by go_size) fun w4 s4 A4 n4 c4 hr4 hb4 hc4 hf4 z4_0 z4_1 z4_2 _=> ?_)))
 exact bodyPost_ret (v:= .agg #[.int .i64 (s4), .slice (A4) (n4) (c4)]) (by simp [results,results143,go_sem,hc4,z3_2,hc3,z2_2,hc2,z1_2,hc1]) rfl (jaf rfl ((hr4.put (x:=0) (B:=none) (m:=0) (d:=0) rfl (by simp [go_sem,hc4,z3_2,hc3,z2_2,hc2,z1_2,hc1]) (by simp [go_sem,hc4,z3_2,hc3,z2_2,hc2,z1_2,hc1])).to (by have h1:=jb6 HG.o HX.o;have h2:=jb6 HG'.o HY.o;have h3:=HE.o;((subst h3;rw [h1,h2];cases g <;> simp [sg] <;> omega)))) bi)
theorem jiw {cc:Int} (hw:wrap64 (s+t)=cc) (qo:(decide (s < cc)==decide (0 < t))=false) {g g':Bool} (h:Rep w s (none) n c a) (h':Rep w t (none) m d b) (hl:Lim a) (hl':Lim b) (hg:decide (a < 0)=g) (hg':decide (b < 0)=g') (e:g≠g') (hc:b.natAbs≤a.natAbs):
  Calls prog 143 #[iv s (none) n c,iv t (none) m d] w (ja7 (a+b) w):=by
 have qe:=jak;have qb:(g==g')=false:=by simp;exact e
 have hz:sgn ((a.natAbs:Int) - (b.natAbs:Int))=if a.natAbs=b.natAbs then 0 else 1:=by unfold sgn;split <;> split <;> omega
 obtain ⟨z,hzz,hz0⟩:∃z,sgn ((a.natAbs:Int) - (b.natAbs:Int))=z∧0≤z:=⟨_,hz,by split <;> omega⟩;clear hz;have HR1:=qh (show ∀W,Below w.heap.size w W→Rep W (s) (none) (n) (c) (a) from fun W hb=>h.below hb);have HR2:=qh (show ∀W,Below w.heap.size w W→Rep W (t) (none) (m) (d) (b) from fun W hb=>h'.below hb);have HL1:=qh hl.few;have HL2:=qh hl'.few;obtain ⟨x,hx⟩:∃x,(a).natAbs=x:=⟨_,rfl⟩;obtain ⟨y,hy⟩:∃y,(b).natAbs=y:=⟨_,rfl⟩;rw [hx] at HL1;rw [hy] at HL2;have HX:=qh hx;have HY:=qh hy;clear h h' hl hl' hx hy;have HG:=qh hg;have HG':=qh hg';have HE:=qh e;rw [HX.o,HY.o] at hc hzz;have HC:=qh hc;have HZ:=qh hzz;clear hg hg' e hc hzz;go_enter func143,ntmps143
 go_wp2_with (first
  | (go_at_call 129;(with_reducible refine (jah (HR1.o _ bi) HG.o HX.o).mono ?_);rintro e1 w1 ⟨A1,n1,c1,rfl,hr1,hb1⟩;obtain ⟨hc1,hf1,z1_0,z1_1,z1_2,_⟩:=bc3 w hb1 (by go_size))
  | (go_at_call 129;(with_reducible refine (jah (HR2.o _ bi) HG'.o HY.o).mono ?_);rintro e2 w2 ⟨A2,n2,c2,rfl,hr2,hb2⟩;obtain ⟨hc2,hf2,z2_0,z2_1,z2_2,_⟩:=bc3 w hb2 (by go_size))
  | (go_at_call 173;(with_reducible refine mo3 w (jcA HZ.o (hr1.below hb2) hr2) (by go_size) fun w5 hb5 hc5 hf5 z5_0 z5_1 z5_2 _=> ?_))
  | (go_at_call 174;(with_reducible refine (jaT (((hr1.below hb2).below hb5)) (hr2.below hb5) HL1.o HC.o).mono ?_);rintro e3 w3 ⟨A3,n3,c3,rfl,hr3,hb3⟩;obtain ⟨hc3,hf3,z3_0,z3_1,z3_2,_⟩:=bc3 w hb3 (by go_size))
  | (go_at_call 130;(with_reducible refine mi3 w (jas hr3) (by go_size) fun w4 s4 A4 n4 c4 hr4 hb4 hc4 hf4 z4_0 z4_1 z4_2 _=> ?_)))
 exact bodyPost_ret (v:= .agg #[.int .i64 (s4), .slice (A4) (n4) (c4)]) (by simp [results,results143,go_sem,hc4,z3_2,hc3,z5_2,hc5,z2_2,hc2,z1_2,hc1]) rfl (jaf rfl ((hr4.put (x:=0) (B:=none) (m:=0) (d:=0) rfl (by simp [go_sem,hc4,z3_2,hc3,z5_2,hc5,z2_2,hc2,z1_2,hc1]) (by simp [go_sem,hc4,z3_2,hc3,z5_2,hc5,z2_2,hc2,z1_2,hc1])).to (by have h1:=jb6 HG.o HX.o;have h2:=jb6 HG'.o HY.o;have h3:=HE.o;have h4:=HC.o;((rw [h1,h2];cases g <;> cases g' <;> simp [sg] at h3 ⊢ <;> omega)))) bi)
theorem jiz {cc:Int} (hw:wrap64 (s+t)=cc) (qo:(decide (s < cc)==decide (0 < t))=false) {g g':Bool} (h:Rep w s (none) n c a) (h':Rep w t (none) m d b) (hl:Lim a) (hl':Lim b) (hg:decide (a < 0)=g) (hg':decide (b < 0)=g') (e:g≠g') (hc:a.natAbs < b.natAbs):
  Calls prog 143 #[iv s (none) n c,iv t (none) m d] w (ja7 (a+b) w):=by
 have qe:=jak;have qb:(g==g')=false:=by simp;exact e
 have hzz:sgn ((a.natAbs:Int) - (b.natAbs:Int))= -1:=by unfold sgn;split <;> omega
 have HR1:=qh (show ∀W,Below w.heap.size w W→Rep W (s) (none) (n) (c) (a) from fun W hb=>h.below hb);have HR2:=qh (show ∀W,Below w.heap.size w W→Rep W (t) (none) (m) (d) (b) from fun W hb=>h'.below hb);have HL1:=qh hl.few;have HL2:=qh hl'.few;obtain ⟨x,hx⟩:∃x,(a).natAbs=x:=⟨_,rfl⟩;obtain ⟨y,hy⟩:∃y,(b).natAbs=y:=⟨_,rfl⟩;rw [hx] at HL1;rw [hy] at HL2;have HX:=qh hx;have HY:=qh hy;clear h h' hl hl' hx hy;have HG:=qh hg;have HG':=qh hg';have HE:=qh e;rw [HX.o,HY.o] at hc hzz;have HC:=qh hc;have HZ:=qh hzz;clear hg hg' e hc hzz;go_enter func143,ntmps143
 go_wp2_with (first
  | (go_at_call 129;(with_reducible refine (jah (HR1.o _ bi) HG.o HX.o).mono ?_);rintro e1 w1 ⟨A1,n1,c1,rfl,hr1,hb1⟩;obtain ⟨hc1,hf1,z1_0,z1_1,z1_2,_⟩:=bc3 w hb1 (by go_size))
  | (go_at_call 129;(with_reducible refine (jah (HR2.o _ bi) HG'.o HY.o).mono ?_);rintro e2 w2 ⟨A2,n2,c2,rfl,hr2,hb2⟩;obtain ⟨hc2,hf2,z2_0,z2_1,z2_2,_⟩:=bc3 w hb2 (by go_size))
  | (go_at_call 173;(with_reducible refine mo3 w (jcA HZ.o (hr1.below hb2) hr2) (by go_size) fun w5 hb5 hc5 hf5 z5_0 z5_1 z5_2 _=> ?_))
  | (go_at_call 174;(with_reducible refine (jaT (hr2.below hb5) ((hr1.below hb2).below hb5) HL2.o (Nat.le_of_lt HC.o)).mono ?_);rintro e3 w3 ⟨A3,n3,c3,rfl,hr3,hb3⟩;obtain ⟨hc3,hf3,z3_0,z3_1,z3_2,_⟩:=bc3 w hb3 (by go_size))
  | (go_at_call 130;(with_reducible refine mi3 w (jas hr3) (by go_size) fun w4 s4 A4 n4 c4 hr4 hb4 hc4 hf4 z4_0 z4_1 z4_2 _=> ?_)))
 exact bodyPost_ret (v:= .agg #[.int .i64 (s4), .slice (A4) (n4) (c4)]) (by simp [results,results143,go_sem,hc4,z3_2,hc3,z5_2,hc5,z2_2,hc2,z1_2,hc1]) rfl (jaf rfl ((hr4.put (x:=0) (B:=none) (m:=0) (d:=0) rfl (by simp [go_sem,hc4,z3_2,hc3,z5_2,hc5,z2_2,hc2,z1_2,hc1]) (by simp [go_sem,hc4,z3_2,hc3,z5_2,hc5,z2_2,hc2,z1_2,hc1])).to (by have h1:=jb6 HG.o HX.o;have h2:=jb6 HG'.o HY.o;have h3:=HE.o;have h4:=HC.o;((rw [h1,h2];cases g <;> cases g' <;> simp [sg] at h3 ⊢ <;> omega)))) bi)
theorem ji3 {cc:Int} (hw:wrap64 (s+t)=cc) (qo:(decide (s < cc)==decide (0 < t))=false) (h:Rep w s (none) n c a) (h':Rep w t (none) m d b) (hl:Lim a) (hl':Lim b):
  Calls prog 143 #[iv s (none) n c,iv t (none) m d] w (ja7 (a+b) w):=by
 by_cases e:decide (a < 0)=decide (b < 0)
 ·exact jgF hw qo h h' hl hl' rfl rfl e
 ·by_cases hc:b.natAbs≤a.natAbs
  ·exact jiw hw qo h h' hl hl' rfl rfl e hc
  ·exact jiz hw qo h h' hl hl' rfl rfl e (by omega)
end
end Go.Proofs.YtfagcpcikjlboaaGreatDoor
