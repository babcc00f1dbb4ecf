/- Parts. -/
import Derived.Test.YthciialjockjmaaGreatDoorIe
set_option linter.all false
set_option maxRecDepth 100000
set_option maxHeartbeats 8000000
namespace Go.Proofs.YthciialjockjmaaGreatDoor
open Go Go.RowKit


theorem jmD (a b:Int) (w:World):
  Calls Tryz.prog 105 #[(Value.agg #[Value.int .i64 (a),Value.slice none 0 0]),(Value.agg #[Value.int .i64 (b),Value.slice none 0 0])] w fun e w'=>e= .returned (.int .i64 (sgn (a - b)))∧Below w.heap.size w w':=by
 have qe:=jaq
 rcases Int.lt_trichotomy a b with h|h|h
 ·rw [show sgn (a - b)= -1 by unfold sgn;rw [if_pos (by omega)]]
  go_enter Tryz.func105,Tryz.ntmps105
  go_wp2
  go_ret
  exact ⟨rfl,(bq (by with_reducible repeat' first|assumption|constructor|go_size))⟩
 ·subst h
  rw [show sgn (a - a)=0 by unfold sgn;rw [if_neg (by omega),if_neg (by omega)]]
  go_enter Tryz.func105,Tryz.ntmps105
  go_wp2
  go_ret
  exact ⟨rfl,(bq (by with_reducible repeat' first|assumption|constructor|go_size))⟩
 ·rw [show sgn (a - b)=1 by unfold sgn;rw [if_neg (by omega),if_pos (by omega)]]
  have h':¬a < b:=by omega
  go_enter Tryz.func105,Tryz.ntmps105
  go_wp2
  go_ret
  exact ⟨rfl,(bq (by with_reducible repeat' first|assumption|constructor|go_size))⟩

section
variable {s a t b:Int} {A B:Option Addr} {n c m d:Nat} {w:World}
theorem jnu {p:Addr} (h:Rep w s (some p) n c a) (h':Rep w t B m d b) (hl:Lim a) (hl':Lim b):
  Calls Tryz.prog 105 #[iv s (some p) n c,iv t B m d] w fun e w'=>e= .returned (.int .i64 (sgn (a - b)))∧Below w.heap.size w w':=by
 have qe:=jaq
 have HR1:=qh (show ∀W,Below w.heap.size w W→Rep W (s) (some p) (n) (c) (a) from fun W hb=>h.below hb)
 have HR2:=qh (show ∀W,Below w.heap.size w W→Rep W (t) (B) (m) (d) (b) from fun W hb=>h'.below hb)
 have HL1:=qh hl
 have HL2:=qh hl'
 clear h h' hl hl'
 go_enter Tryz.func105,Tryz.ntmps105
 go_wp2_with (first
  | (go_at_call 127;(with_reducible refine (jhq (HR1.out _ (bq (by with_reducible repeat' first|assumption|constructor|go_size))) (HR2.out _ (bq (by with_reducible repeat' first|assumption|constructor|go_size))) HL1.out HL2.out).mono ?_);rintro e1 w1 ⟨s1,A1,n1,c1,rfl,hr1,hb1⟩;obtain ⟨hc1,hf1,z1_0,z1_1⟩:=bc2 w hb1 (by go_size);(try simp only [dw] at hc1 hf1))
  | (go_at_call 45;(with_reducible refine (jdR hr1).mono ?_);rintro e2 w2 ⟨rfl,hb2⟩;obtain ⟨hc2,hf2,z2_0,z2_1⟩:=bc2 w hb2 (by go_size);(try simp only [dw] at hc2 hf2)))
 go_ret
 exact ⟨rfl,(bq (by with_reducible repeat' first|assumption|constructor|go_size))⟩
theorem jk8 {q:Addr} (h:Rep w s none n c a) (h':Rep w t (some q) m d b) (hl:Lim a) (hl':Lim b):
  Calls Tryz.prog 105 #[iv s none n c,iv t (some q) m d] w fun e w'=>e= .returned (.int .i64 (sgn (a - b)))∧Below w.heap.size w w':=by
 have qe:=jaq
 have HR1:=qh (show ∀W,Below w.heap.size w W→Rep W (s) (none) (n) (c) (a) from fun W hb=>h.below hb)
 have HR2:=qh (show ∀W,Below w.heap.size w W→Rep W (t) (some q) (m) (d) (b) from fun W hb=>h'.below hb)
 have HL1:=qh hl
 have HL2:=qh hl'
 clear h h' hl hl'
 go_enter Tryz.func105,Tryz.ntmps105
 go_wp2_with (first
  | (go_at_call 127;(with_reducible refine (jhq (HR1.out _ (bq (by with_reducible repeat' first|assumption|constructor|go_size))) (HR2.out _ (bq (by with_reducible repeat' first|assumption|constructor|go_size))) HL1.out HL2.out).mono ?_);rintro e1 w1 ⟨s1,A1,n1,c1,rfl,hr1,hb1⟩;obtain ⟨hc1,hf1,z1_0,z1_1⟩:=bc2 w hb1 (by go_size);(try simp only [dw] at hc1 hf1))
  | (go_at_call 45;(with_reducible refine (jdR hr1).mono ?_);rintro e2 w2 ⟨rfl,hb2⟩;obtain ⟨hc2,hf2,z2_0,z2_1⟩:=bc2 w hb2 (by go_size);(try simp only [dw] at hc2 hf2)))
 go_ret
 exact ⟨rfl,(bq (by with_reducible repeat' first|assumption|constructor|go_size))⟩
theorem jpg (h:Rep w s A n c a) (h':Rep w t B m d b) (hl:Lim a) (hl':Lim b):
  Calls Tryz.prog 105 #[iv s A n c,iv t B m d] w fun e w'=>e= .returned (.int .i64 (sgn (a - b)))∧Below w.heap.size w w':=by
 rcases A with _|p
 ·rcases B with _|q
  ·obtain ⟨rfl,rfl,rfl,_⟩:=h.none_
   obtain ⟨rfl,rfl,rfl,_⟩:=h'.none_
   exact jmD _ _ w
  ·exact jk8 h h' hl hl'
 ·exact jnu h h' hl hl'
end

def jcT (y z:Int) (w:World) (e:Ending) (w':World):Prop:=
 ∃s A n c t B m d,e= .returned (.tuple #[iv s A n c,iv t B m d])∧Rep w' s A n c y∧Rep w' t B m d z∧Below w.heap.size w w'
theorem jfv {y z s t:Int} {A B:Option Addr} {n c m d:Nat} {w w':World} {v:Value} (hv:v= .tuple #[iv s A n c,iv t B m d]) (h:Rep w' s A n c y) (h2:Rep w' t B m d z) (hb:Below w.heap.size w w'):jcT y z w (.returned v) w':=
 ⟨s,A,n,c,t,B,m,d,by rw [hv],h,h2,hb⟩

theorem jlp {a b:Int} (hb:0 < b) (h:a.tmod b < 0):a.tdiv b - 1=a / b∧a.tmod b+b=a % b:=by
 have h1:=Int.tmod_eq_emod (a:=a) (b:=b)
 have h2:=Int.tdiv_eq_ediv (a:=a) (b:=b)
 have h3:=Int.emod_nonneg a (show b≠0 by omega)
 have h4:=Int.emod_lt_of_pos a hb
 rw [Int.sign_eq_one_of_pos hb] at h2
 have h5:((b.natAbs:Nat):Int)=b:=by omega
 split at h1
 ·omega
 ·rename_i h6
  rw [if_neg h6] at h2
  rw [h5] at h1
  omega
theorem jjq {a b:Int} (hb:0 < b) (h:0≤a.tmod b):a.tdiv b=a / b∧a.tmod b=a % b:=by
 have h1:=Int.tmod_eq_emod (a:=a) (b:=b)
 have h2:=Int.tdiv_eq_ediv (a:=a) (b:=b)
 have h3:=Int.emod_nonneg a (show b≠0 by omega)
 have h4:=Int.emod_lt_of_pos a hb
 split at h1
 ·rename_i h6
  rw [if_pos h6] at h2
  omega
 ·have h5:((b.natAbs:Nat):Int)=b:=by omega
  rw [h5] at h1
  omega

theorem jfg {a b:Int} (hp:0 < b) (ha:R64 a):R64 (a / b):=by
 have r1:=Int.emod_nonneg a (show b≠0 by omega)
 have r2:=Int.emod_lt_of_pos a hp
 have h1:=Int.mul_ediv_add_emod a b
 have h5:=ha.1
 have h6:=ha.2
 rcases Int.lt_or_le (a / b) 0 with h3|h3
 ·have h4:b*(a / b+1)≤1*(a / b+1):=Int.mul_le_mul_of_nonpos_right (by omega) (by omega)
  rw [Int.mul_add,Int.mul_one,Int.one_mul] at h4
  exact ⟨by omega,by omega⟩
 ·have h4:1*(a / b)≤b*(a / b):=Int.mul_le_mul_of_nonneg_right (by omega) h3
  exact ⟨by omega,by omega⟩

theorem jhh (a b:Int) (w:World) (ha:R64 a) (hb:R64 b) (hm:a≠ -9223372036854775808) (hp:0 < b):
  Calls Tryz.prog 85 #[iv a none 0 0,iv b none 0 0] w (jcT (a / b) (a % b) w):=by
 have qe:=jaq
 have qb:(a != -9223372036854775808)=true:=by rw [bne_iff_ne];exact hm
 have hb0:(b==0)=false:=by rw [beq_eq_false_iff_ne];omega
 by_cases hr:a.tmod b < 0
 ·obtain ⟨e1,e2⟩:=jlp hp hr
  rw [←e1,←e2]
  have r1:=Int.emod_nonneg a (show b≠0 by omega)
  have r2:=Int.emod_lt_of_pos a hp
  obtain ⟨r3,r4⟩:=jfg hp ha
  obtain ⟨hb1,hb2⟩:=hb
  have r5:a / b < 0:=by
   have h1:a < 0:=by
    rcases Int.lt_or_le a 0 with h|h
    ·exact h
    ·have:=Int.tmod_nonneg b h
     omega
   exact Int.ediv_neg_of_neg_of_pos h1 hp
  have H:=qh (show R64 (a.tdiv b - 1)∧R64 (a.tmod b+b) from ⟨⟨by omega,by omega⟩,⟨by omega,by omega⟩⟩)
  have w3:wrap64 (a.tdiv b - 1)=a.tdiv b - 1:=by unfold wrap64;omega
  have w4:wrap64 (a.tmod b+b)=a.tmod b+b:=by unfold wrap64;omega
  have w0:wrap64 (a.tdiv b)=a.tdiv b:=by unfold wrap64;omega
  have W0:=qh w0
  have W3:=qh w3
  have W4:=qh w4
  clear r1 r2 r3 r4 r5 hb1 hb2 e1 e2 ha hm w0 w3 w4
  go_enter Tryz.func85,Tryz.ntmps85
  go_wp2
  go_quiet (fail)
  go_wp2
  go_quiet (fail)
  go_wp2
  exact bodyPost_ret (v:= .tuple #[.agg #[.int .i64 (a.tdiv b - 1), .slice (none) (0) (0)], .agg #[.int .i64 (a.tmod b+b), .slice (none) (0) (0)]]) (by simp [results,Tryz.results85,go_sem,W0.out,W3.out,W4.out]) rfl (jfv rfl (.small _ H.out.1.1 H.out.1.2) (.small _ H.out.2.1 H.out.2.2) (by exact (bq (by with_reducible repeat' first|assumption|constructor|go_size))))
 ·obtain ⟨e1,e2⟩:=jjq hp (Int.not_lt.1 hr)
  rw [←e1,←e2]
  have r1:=Int.emod_nonneg a (show b≠0 by omega)
  have r2:=Int.emod_lt_of_pos a hp
  obtain ⟨r3,r4⟩:=jfg hp ha
  obtain ⟨hb1,hb2⟩:=hb
  have H:=qh (show R64 (a.tdiv b)∧R64 (a.tmod b) from ⟨⟨by omega,by omega⟩,⟨by omega,by omega⟩⟩)
  have w0:wrap64 (a.tdiv b)=a.tdiv b:=by unfold wrap64;omega
  have W0:=qh w0
  clear r1 r2 r3 r4 hb1 hb2 e1 e2 ha hm w0
  go_enter Tryz.func85,Tryz.ntmps85
  go_wp2
  go_quiet (fail)
  go_wp2
  exact bodyPost_ret (v:= .tuple #[.agg #[.int .i64 (a.tdiv b), .slice (none) (0) (0)], .agg #[.int .i64 (a.tmod b), .slice (none) (0) (0)]]) (by simp [results,Tryz.results85,go_sem,W0.out]) rfl (jfv rfl (.small _ H.out.1.1 H.out.1.2) (.small _ H.out.2.1 H.out.2.2) (by exact (bq (by with_reducible repeat' first|assumption|constructor|go_size))))
end Go.Proofs.YthciialjockjmaaGreatDoor
