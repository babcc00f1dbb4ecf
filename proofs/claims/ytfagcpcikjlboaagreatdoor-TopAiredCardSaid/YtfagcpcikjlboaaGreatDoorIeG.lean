/- Parts. -/
import Derived.Test.YtfagcpcikjlboaaGreatDoorId
set_option linter.all false
set_option maxRecDepth 100000
set_option maxHeartbeats 8000000
namespace Go.Proofs.YtfagcpcikjlboaaGreatDoor
open Go Go.RowKit Go.Proofs.Tryz

section
variable {s a t b:Int} {A B:Option Addr} {n c m d:Nat} {w:World}
theorem Rep.none_ (h:Rep w s none n c a):s=a∧n=0∧c=0∧R64 a:=by
 cases h with
 | small _ h0 h1=>exact ⟨rfl,rfl,rfl,h0,h1⟩
 | plus _ _ _ ds h=>obtain ⟨b,o,e,_⟩:=h.wd.at_ h.pos;cases e
 | minus _ _ _ ds h=>obtain ⟨b,o,e,_⟩:=h.wd.at_ h.pos;cases e

theorem joX (a b:Int) (w:World) (h:R64 (a+b)):
  Calls prog 143 #[iv a none 0 0,iv b none 0 0] w (ja7 (a+b) w):=by
 have qe:=jak;have qb:(decide (a < a+b)==decide (0 < b))=true:=by rw [beq_iff_eq,decide_eq_decide];omega
 have hw:wrap64 (a+b)=a+b:=by have:=h.1;have:=h.2;unfold wrap64;omega
 have H:=qh h;clear h;go_enter func143,ntmps143;go_wp2;exact bodyPost_ret (v:= .agg #[.int .i64 (a+b), .slice (none) (0) (0)]) (by simp [results,results143,go_sem]) rfl (jaf rfl (.small _ H.o.1 H.o.2) bi)

theorem jdD (h:Rep w s A n c a) (h':Rep w t B m d b) (hl:Lim a) (hl':Lim b):Calls prog 143 #[iv s A n c,iv t B m d] w (ja7 (a+b) w):=by
 rcases A with _|p
 ·rcases B with _|q
  ·by_cases hr:R64 (a+b)
   ·obtain ⟨rfl,rfl,rfl,_⟩:=h.none_;obtain ⟨rfl,rfl,rfl,_⟩:=h'.none_;exact joX _ _ w hr
   ·refine ji3 rfl ?_ h h' hl hl';obtain ⟨rfl,_,_,h1,h2⟩:=h.none_;obtain ⟨rfl,_,_,h3,h4⟩:=h'.none_
    have h5:s+t < -9223372036854775808∨9223372036854775808≤s+t:=by
     rcases Int.lt_or_le (s+t) (-9223372036854775808) with h6|h6
     ·exact Or.inl h6
     ·rcases Int.lt_or_le (s+t) 9223372036854775808 with h7|h7
      ·exact absurd ⟨h6,h7⟩ hr
      ·exact Or.inr h7
    rcases h5 with h5|h5
    ·have e:wrap64 (s+t)=s+t+18446744073709551616:=by unfold wrap64;omega
     rw [e,show decide (s < s+t+18446744073709551616)=true by simp;omega,show decide (0 < t)=false by simp;omega];rfl
    ·have e:wrap64 (s+t)=s+t - 18446744073709551616:=by unfold wrap64;omega
     rw [e,show decide (s < s+t - 18446744073709551616)=false by simp;omega,show decide (0 < t)=true by simp;omega];rfl
  ·exact jgH h h' hl hl'
 ·exact jhC h h' hl hl'

theorem jeX {z:Int} (h:R64 z):Lim z:=by
 have h1:=Nat.pow_le_pow_right ja6 (show 1≤100000 by omega);rw [Nat.pow_one] at h1;have h2:z.natAbs < B64:=by rw [ja3];have:=h.1;have:=h.2;omega
 exact ⟨Nat.lt_of_lt_of_le h2 h1⟩
theorem Lim.neg {z:Int} (h:Lim z):Lim (-z):=⟨by rw [Int.natAbs_neg];exact h.lt⟩
theorem jiW (h:Rep w s A n c a) (h':Rep w t B m d b) (hl:Lim a) (hl':Lim b):Calls prog 165 #[iv s A n c,iv t B m d] w (ja7 (a - b) w):=by
 have HR1:=qh (show ∀W,Below w.heap.size w W→Rep W s A n c a from fun W hb=>h.below hb);have HR2:=qh (show ∀W,Below w.heap.size w W→Rep W t B m d b from fun W hb=>h'.below hb);have HL1:=qh hl;have HL2:=qh hl'.neg;clear h h' hl hl';go_enter func165,ntmps165;go_wp2
 go_region_held3 (fun w'=>w'.cell? ⟨w.heap.size,0,none⟩=some (.int .i64 s)∧w'.cell? ⟨w.heap.size,1,none⟩=some (.slice A n c)∧w'.cell? ⟨w.heap.size+1,0,none⟩=some (.int .i64 t)∧w'.cell? ⟨w.heap.size+1,1,none⟩=some (.slice B m d))
  (refine ⟨?_, ?_, ?_, ?_⟩ <;> first|(go_keep;done)|(go_split_ands;exact ja9 hb2 (by assumption))|(go_split_ands;exact ja9 hb1 (by assumption))|(go_split_ands;(repeat rw [World.cell?_setCell_far _ _ _ _ (by dsimp only;omega)]);assumption))
  (first
    | (go_at_call 125;(with_reducible refine mi3 w (neg_num (HR2.o _ bi)) (by go_size) fun w1 s1 A1 n1 c1 hr1 hb1 hc1 hf1 z1_0 z1_1 z1_2 _=> ?_))
    | (go_at_call 143;(with_reducible refine mi3 w (jdD (HR1.o _ bi) hr1 HL1.o HL2.o) (by go_size) fun w2 s2 A2 n2 c2 hr2 hb2 hc2 hf2 z2_0 z2_1 z2_2 _=> ?_)))
 go_wp2;exact bodyPost_ret (v:= .agg #[.int .i64 (s2), .slice (A2) (n2) (c2)]) (by simp [results,results165,go_sem,hc2,z1_2,hc1]) rfl (jaf rfl ((hr2.put (x:=0) (B:=none) (m:=0) (d:=0) rfl (by simp [go_sem,hc2,z1_2,hc1]) (by simp [go_sem,hc2,z1_2,hc1])).to ((Int.sub_eq_add_neg).symm)) bi)
end

theorem jeS (x y h l:Nat) (hx:x < B64) (hy:y < B64) (eh:h=x*y / B64) (el:l=x*y % B64) (W:World) (n:Nat):
  Calls prog 127 #[.int .u64 x, .int .u64 y] (W.drewN n) fun e w'=>e= .returned (.tuple #[.int .u64 (h:Int), .int .u64 (l:Int)])∧∃m,w'=W.drewN m:=
 (jam x y h l hx hy eh el _).mono fun e w' ⟨he,hw⟩=>⟨he,n,hw⟩


theorem jpG (a b:Int) (w:World) (ha:R64 a) (hb:R64 b) (hr:a.natAbs*b.natAbs≤9223372036854775807):
  Calls prog 78 #[iv a none 0 0,iv b none 0 0] w (ja7 (a*b) w):=by
 have qe:=jak;obtain ⟨x,hx⟩:∃x,(a).natAbs=x:=⟨_,rfl⟩;obtain ⟨y,hy⟩:∃y,(b).natAbs=y:=⟨_,rfl⟩;have hSx:=fun W n=>jcw a W ha.1 ha.2 n
 have hSy:=fun W n=>jcw b W hb.1 hb.2 n
 have hxB:x < B64:=by rw [ja3];omega
 have hyB:y < B64:=by rw [ja3];omega
 rw [hx] at hSx;rw [hy] at hSy;obtain ⟨hi,ehi⟩:∃hi,hi=x*y / B64:=⟨_,rfl⟩;obtain ⟨lo,elo⟩:∃lo,lo=x*y % B64:=⟨_,rfl⟩;have hM:=fun W n=>jeS x y hi lo hxB hyB ehi elo W n
 have MX:=qh hSx;have MY:=qh hSy;have MM:=qh hM;have hlt:x*y < B64:=by rw [ja3];rw [hx,hy] at hr;omega
 have hi0:hi=0:=by rw [ehi];exact Nat.div_eq_of_lt hlt
 have lo0:lo=x*y:=by rw [elo];exact Nat.mod_eq_of_lt hlt
 have b0:((hi:Int)==0)=true:=by simp [hi0]
 have hll:lo≤9223372036854775807:=by rw [lo0,←hx,←hy];exact hr
 have b1:decide ((lo:Int)≤9223372036854775807)=true:=by simp;omega
 have hcv:IntKind.i64.wrap (lo:Int)=(lo:Int):=by simp [IntKind.wrap,IntKind.bits,IntKind.signed];omega
 have hcn:wrap64 (-(lo:Int))= -(lo:Int):=by unfold wrap64;omega
 have hab:a.natAbs*b.natAbs=lo:=by rw [hx,hy,lo0]
 have HAB:=qh hab;have HLL:=qh hll;by_cases hd:decide (a < 0)=decide (b < 0)
 ·have qd:(decide (a < 0)==decide (b < 0))=true:=by simp [hd]
  have he:a*b=(lo:Int):=by
   rw [←HAB.o];rw [decide_eq_decide] at hd;rcases Int.lt_or_le a 0 with h1|h1
   ·have h2:=hd.1 h1;rw [Int.natCast_mul,show ((a.natAbs:Nat):Int)= -a by omega,show ((b.natAbs:Nat):Int)= -b by omega,Int.neg_mul_neg]
   ·have h2:¬b < 0:=fun h=>absurd (hd.2 h) (by omega)
    rw [Int.natCast_mul,show ((a.natAbs:Nat):Int)=a by omega,show ((b.natAbs:Nat):Int)=b by omega]
  rw [he];clear hd ha hb hr hx hy hSx hSy hxB hyB ehi elo hM hlt hi0 lo0 hll hab he;go_enter func78,ntmps78;go_wp2
  go_quiet ((first|(go_at_call 128;with_reducible exact MX.o _ _)|(go_at_call 128;with_reducible exact MY.o _ _)|(go_at_call 127;with_reducible exact MM.o _ _)))
  go_wp2;exact bodyPost_ret (v:= .agg #[.int .i64 ((lo:Int)), .slice (none) (0) (0)]) (by simp [results,results78,go_sem]) rfl (jaf rfl (.small _ (by omega) (by have:=HLL.o;omega)) bi)
 ·have qd:(decide (a < 0)==decide (b < 0))=false:=by rw [beq_eq_false_iff_ne];exact hd
  have he:a*b= -(lo:Int):=by
   rw [←HAB.o];rw [decide_eq_decide] at hd;rcases Int.lt_or_le a 0 with h1|h1
   ·have h2:¬b < 0:=fun h=>hd ⟨fun _=>h,fun _=>h1⟩
    rw [Int.natCast_mul,show ((a.natAbs:Nat):Int)= -a by omega,show ((b.natAbs:Nat):Int)=b by omega,Int.neg_mul,Int.neg_neg]
   ·have h2:b < 0:=by
     rcases Int.lt_or_le b 0 with h|h
     ·exact h
     ·exact absurd ⟨fun h3=>absurd h3 (by omega),fun h3=>absurd h3 (by omega)⟩ hd
    rw [Int.natCast_mul,show ((a.natAbs:Nat):Int)=a by omega,show ((b.natAbs:Nat):Int)= -b by omega,Int.mul_neg,Int.neg_neg]
  rw [he];clear hd ha hb hr hx hy hSx hSy hxB hyB ehi elo hM hlt hi0 lo0 hll hab he;go_enter func78,ntmps78;go_wp2
  go_quiet ((first|(go_at_call 128;with_reducible exact MX.o _ _)|(go_at_call 128;with_reducible exact MY.o _ _)|(go_at_call 127;with_reducible exact MM.o _ _)))
  go_wp2;exact bodyPost_ret (v:= .agg #[.int .i64 (-(lo:Int)), .slice (none) (0) (0)]) (by simp [results,results78,go_sem]) rfl (jaf rfl (.small _ (by have:=HLL.o;omega) (by omega)) bi)

theorem jjN {a b:Int} {g g':Bool} {x y:Nat} (h1:a=sg g x) (h2:b=sg g' y):sg (!g==g') (x*y)=a*b:=by
 subst h1 h2;cases g <;> cases g' <;> simp [sg,Int.neg_mul,Int.mul_neg]


section
variable {s a t b:Int} {A B:Option Addr} {n c m d:Nat} {w:World}
theorem joW {p:Addr} (h:Rep w s (some p) n c a) (h':Rep w t B m d b) (hl:Lim a) (hl':Lim b):
  Calls prog 78 #[iv s (some p) n c,iv t B m d] w (ja7 (a*b) w):=by
 have qe:=jak;have HR1:=qh (show ∀W,Below w.heap.size w W→Rep W (s) (some p) (n) (c) (a) from fun W hb=>h.below hb);have HR2:=qh (show ∀W,Below w.heap.size w W→Rep W (t) (B) (m) (d) (b) from fun W hb=>h'.below hb);have HL1:=qh hl.few;have HL2:=qh hl'.few;obtain ⟨x',hx'⟩:∃x,(a).natAbs=x:=⟨_,rfl⟩;obtain ⟨y',hy'⟩:∃y,(b).natAbs=y:=⟨_,rfl⟩;obtain ⟨g,hg⟩:∃g,decide (a < 0)=g:=⟨_,rfl⟩;obtain ⟨g',hg'⟩:∃g,decide (b < 0)=g:=⟨_,rfl⟩;rw [hx'] at HL1;rw [hy'] at HL2;have HX:=qh hx';have HY:=qh hy';have HG:=qh hg;have HG':=qh hg';clear h h' hl hl' hx' hy' hg hg';go_enter func78,ntmps78
 go_wp2_with (first
 | (go_at_call 129;(with_reducible refine (jah (HR1.o _ bi) HG.o HX.o).mono ?_);rintro e1 w1 ⟨A1,n1,c1,rfl,hr1,hb1⟩;obtain ⟨hc1,hf1,z1_0,z1_1,z1_2,_⟩:=bc3 w hb1 (by go_size))
 | (go_at_call 129;(with_reducible refine (jah (HR2.o _ bi) HG'.o HY.o).mono ?_);rintro e2 w2 ⟨A2,n2,c2,rfl,hr2,hb2⟩;obtain ⟨hc2,hf2,z2_0,z2_1,z2_2,_⟩:=bc3 w hb2 (by go_size))
 | (go_at_call 131;(with_reducible refine (jbt (hr1.below hb2) hr2 HL1.o HL2.o).mono ?_);rintro e3 w3 ⟨A3,n3,c3,rfl,hr3,hb3⟩;obtain ⟨hc3,hf3,z3_0,z3_1,z3_2,_⟩:=bc3 w hb3 (by go_size))
 | (go_at_call 130;(with_reducible refine mi3 w (jas hr3) (by go_size) fun w4 s4 A4 n4 c4 hr4 hb4 hc4 hf4 z4_0 z4_1 z4_2 _=> ?_)))
 exact bodyPost_ret (v:= .agg #[.int .i64 (s4), .slice (A4) (n4) (c4)]) (by simp [results,results78,go_sem,hc4,z3_2,hc3,z2_2,hc2,z1_2,hc1]) rfl (jaf rfl ((hr4.put (x:=0) (B:=none) (m:=0) (d:=0) rfl (by simp [go_sem,hc4,z3_2,hc3,z2_2,hc2,z1_2,hc1]) (by simp [go_sem,hc4,z3_2,hc3,z2_2,hc2,z1_2,hc1])).to (jjN (jb6 HG.o HX.o) (jb6 HG'.o HY.o))) bi)
theorem jmX {q:Addr} (h:Rep w s none n c a) (h':Rep w t (some q) m d b) (hl:Lim a) (hl':Lim b):
  Calls prog 78 #[iv s none n c,iv t (some q) m d] w (ja7 (a*b) w):=by
 have qe:=jak;have HR1:=qh (show ∀W,Below w.heap.size w W→Rep W (s) (none) (n) (c) (a) from fun W hb=>h.below hb);have HR2:=qh (show ∀W,Below w.heap.size w W→Rep W (t) (some q) (m) (d) (b) from fun W hb=>h'.below hb);have HL1:=qh hl.few;have HL2:=qh hl'.few;obtain ⟨x',hx'⟩:∃x,(a).natAbs=x:=⟨_,rfl⟩;obtain ⟨y',hy'⟩:∃y,(b).natAbs=y:=⟨_,rfl⟩;obtain ⟨g,hg⟩:∃g,decide (a < 0)=g:=⟨_,rfl⟩;obtain ⟨g',hg'⟩:∃g,decide (b < 0)=g:=⟨_,rfl⟩;rw [hx'] at HL1;rw [hy'] at HL2;have HX:=qh hx';have HY:=qh hy';have HG:=qh hg;have HG':=qh hg';clear h h' hl hl' hx' hy' hg hg';go_enter func78,ntmps78
 go_wp2_with (first
 | (go_at_call 129;(with_reducible refine (jah (HR1.o _ bi) HG.o HX.o).mono ?_);rintro e1 w1 ⟨A1,n1,c1,rfl,hr1,hb1⟩;obtain ⟨hc1,hf1,z1_0,z1_1,z1_2,_⟩:=bc3 w hb1 (by go_size))
 | (go_at_call 129;(with_reducible refine (jah (HR2.o _ bi) HG'.o HY.o).mono ?_);rintro e2 w2 ⟨A2,n2,c2,rfl,hr2,hb2⟩;obtain ⟨hc2,hf2,z2_0,z2_1,z2_2,_⟩:=bc3 w hb2 (by go_size))
 | (go_at_call 131;(with_reducible refine (jbt (hr1.below hb2) hr2 HL1.o HL2.o).mono ?_);rintro e3 w3 ⟨A3,n3,c3,rfl,hr3,hb3⟩;obtain ⟨hc3,hf3,z3_0,z3_1,z3_2,_⟩:=bc3 w hb3 (by go_size))
 | (go_at_call 130;(with_reducible refine mi3 w (jas hr3) (by go_size) fun w4 s4 A4 n4 c4 hr4 hb4 hc4 hf4 z4_0 z4_1 z4_2 _=> ?_)))
 exact bodyPost_ret (v:= .agg #[.int .i64 (s4), .slice (A4) (n4) (c4)]) (by simp [results,results78,go_sem,hc4,z3_2,hc3,z2_2,hc2,z1_2,hc1]) rfl (jaf rfl ((hr4.put (x:=0) (B:=none) (m:=0) (d:=0) rfl (by simp [go_sem,hc4,z3_2,hc3,z2_2,hc2,z1_2,hc1]) (by simp [go_sem,hc4,z3_2,hc3,z2_2,hc2,z1_2,hc1])).to (jjN (jb6 HG.o HX.o) (jb6 HG'.o HY.o))) bi)
theorem jpZ (ha:R64 a) (hb:R64 b) (hr:9223372036854775807 < a.natAbs*b.natAbs):
  Calls prog 78 #[iv a none 0 0,iv b none 0 0] w (ja7 (a*b) w):=by
 have qe:=jak;have h:Rep w a none 0 0 a:= .small _ ha.1 ha.2;have h':Rep w b none 0 0 b:= .small _ hb.1 hb.2;have hl:Lim a:=jeX ha;have hl':Lim b:=jeX hb;obtain ⟨x,hx⟩:∃x,(a).natAbs=x:=⟨_,rfl⟩;obtain ⟨y,hy⟩:∃y,(b).natAbs=y:=⟨_,rfl⟩;have hSx:=fun W n=>jcw a W ha.1 ha.2 n
 have hSy:=fun W n=>jcw b W hb.1 hb.2 n
 have hxB:x < B64:=by rw [ja3];omega
 have hyB:y < B64:=by rw [ja3];omega
 rw [hx] at hSx;rw [hy] at hSy;obtain ⟨hi,ehi⟩:∃hi,hi=x*y / B64:=⟨_,rfl⟩;obtain ⟨lo,elo⟩:∃lo,lo=x*y % B64:=⟨_,rfl⟩;have hM:=fun W n=>jeS x y hi lo hxB hyB ehi elo W n
 have MX:=qh hSx;have MY:=qh hSy;have MM:=qh hM;have HR1:=qh (show ∀W,Below w.heap.size w W→Rep W (a) (none) (0) (0) (a) from fun W hb=>h.below hb);have HR2:=qh (show ∀W,Below w.heap.size w W→Rep W (b) (none) (0) (0) (b) from fun W hb=>h'.below hb);have HL1:=qh hl.few;have HL2:=qh hl'.few;obtain ⟨x',hx'⟩:∃x,(a).natAbs=x:=⟨_,rfl⟩;obtain ⟨y',hy'⟩:∃y,(b).natAbs=y:=⟨_,rfl⟩;obtain ⟨g,hg⟩:∃g,decide (a < 0)=g:=⟨_,rfl⟩;obtain ⟨g',hg'⟩:∃g,decide (b < 0)=g:=⟨_,rfl⟩;rw [hx'] at HL1;rw [hy'] at HL2;have HX:=qh hx';have HY:=qh hy';have HG:=qh hg;have HG':=qh hg';clear h h' hl hl' hx' hy' hg hg';rw [hx,hy] at hr;by_cases hz:hi=0
 ·have b0:((hi:Int)==0)=true:=by simp [hz]
  have hll:9223372036854775807 < lo:=by
   have:x*y=B64*hi+lo:=by rw [ehi,elo];exact (Nat.div_add_mod _ _).symm
   rw [hz,Nat.mul_zero,Nat.zero_add] at this;omega
  have b1:decide ((lo:Int)≤9223372036854775807)=false:=by simp;omega
  clear hz hll ha hb hr hx hy hSx hSy hxB hyB ehi elo hM;go_enter func78,ntmps78;go_wp2
  go_quiet ((first|(go_at_call 128;with_reducible exact MX.o _ _)|(go_at_call 128;with_reducible exact MY.o _ _)|(go_at_call 127;with_reducible exact MM.o _ _)))
  go_wp2_with (first
 | (go_at_call 129;(with_reducible refine (jah (HR1.o _ bi) HG.o HX.o).mono ?_);rintro e1 w1 ⟨A1,n1,c1,rfl,hr1,hb1⟩;obtain ⟨hc1,hf1,z1_0,z1_1,z1_2,_⟩:=bc3 w hb1 (by go_size))
 | (go_at_call 129;(with_reducible refine (jah (HR2.o _ bi) HG'.o HY.o).mono ?_);rintro e2 w2 ⟨A2,n2,c2,rfl,hr2,hb2⟩;obtain ⟨hc2,hf2,z2_0,z2_1,z2_2,_⟩:=bc3 w hb2 (by go_size))
 | (go_at_call 131;(with_reducible refine (jbt (hr1.below hb2) hr2 HL1.o HL2.o).mono ?_);rintro e3 w3 ⟨A3,n3,c3,rfl,hr3,hb3⟩;obtain ⟨hc3,hf3,z3_0,z3_1,z3_2,_⟩:=bc3 w hb3 (by go_size))
 | (go_at_call 130;(with_reducible refine mi3 w (jas hr3) (by go_size) fun w4 s4 A4 n4 c4 hr4 hb4 hc4 hf4 z4_0 z4_1 z4_2 _=> ?_)))
  go_wp2;exact bodyPost_ret (v:= .agg #[.int .i64 (s4), .slice (A4) (n4) (c4)]) (by simp [results,results78,go_sem,hc4,z3_2,hc3,z2_2,hc2,z1_2,hc1]) rfl (jaf rfl ((hr4.put (x:=0) (B:=none) (m:=0) (d:=0) rfl (by simp [go_sem,hc4,z3_2,hc3,z2_2,hc2,z1_2,hc1]) (by simp [go_sem,hc4,z3_2,hc3,z2_2,hc2,z1_2,hc1])).to (jjN (jb6 HG.o HX.o) (jb6 HG'.o HY.o))) bi)
 ·have b0:((hi:Int)==0)=false:=by rw [beq_eq_false_iff_ne];omega
  clear hz ha hb hr hx hy hSx hSy hxB hyB ehi elo hM;go_enter func78,ntmps78;go_wp2
  go_quiet ((first|(go_at_call 128;with_reducible exact MX.o _ _)|(go_at_call 128;with_reducible exact MY.o _ _)|(go_at_call 127;with_reducible exact MM.o _ _)))
  go_wp2_with (first
 | (go_at_call 129;(with_reducible refine (jah (HR1.o _ bi) HG.o HX.o).mono ?_);rintro e1 w1 ⟨A1,n1,c1,rfl,hr1,hb1⟩;obtain ⟨hc1,hf1,z1_0,z1_1,z1_2,_⟩:=bc3 w hb1 (by go_size))
 | (go_at_call 129;(with_reducible refine (jah (HR2.o _ bi) HG'.o HY.o).mono ?_);rintro e2 w2 ⟨A2,n2,c2,rfl,hr2,hb2⟩;obtain ⟨hc2,hf2,z2_0,z2_1,z2_2,_⟩:=bc3 w hb2 (by go_size))
 | (go_at_call 131;(with_reducible refine (jbt (hr1.below hb2) hr2 HL1.o HL2.o).mono ?_);rintro e3 w3 ⟨A3,n3,c3,rfl,hr3,hb3⟩;obtain ⟨hc3,hf3,z3_0,z3_1,z3_2,_⟩:=bc3 w hb3 (by go_size))
 | (go_at_call 130;(with_reducible refine mi3 w (jas hr3) (by go_size) fun w4 s4 A4 n4 c4 hr4 hb4 hc4 hf4 z4_0 z4_1 z4_2 _=> ?_)))
  go_wp2;exact bodyPost_ret (v:= .agg #[.int .i64 (s4), .slice (A4) (n4) (c4)]) (by simp [results,results78,go_sem,hc4,z3_2,hc3,z2_2,hc2,z1_2,hc1]) rfl (jaf rfl ((hr4.put (x:=0) (B:=none) (m:=0) (d:=0) rfl (by simp [go_sem,hc4,z3_2,hc3,z2_2,hc2,z1_2,hc1]) (by simp [go_sem,hc4,z3_2,hc3,z2_2,hc2,z1_2,hc1])).to (jjN (jb6 HG.o HX.o) (jb6 HG'.o HY.o))) bi)

theorem jbo (h:Rep w s A n c a) (h':Rep w t B m d b) (hl:Lim a) (hl':Lim b):Calls prog 78 #[iv s A n c,iv t B m d] w (ja7 (a*b) w):=by
 rcases A with _|p
 ·rcases B with _|q
  ·obtain ⟨rfl,rfl,rfl,ha⟩:=h.none_;obtain ⟨rfl,rfl,rfl,hb⟩:=h'.none_;rcases Nat.lt_or_ge 9223372036854775807 (s.natAbs*t.natAbs) with hr|hr
   ·exact jpZ ha hb hr
   ·exact jpG _ _ w ha hb hr
  ·exact jmX h h' hl hl'
 ·exact joW h h' hl hl'
end


theorem jpy (a b:Int) (w:World):
  Calls prog 124 #[(Value.agg #[Value.int .i64 (a),Value.slice none 0 0]),(Value.agg #[Value.int .i64 (b),Value.slice none 0 0])] w fun e w'=>e= .returned (.int .i64 (sgn (a - b)))∧Below w.heap.size w w':=by
 have qe:=jak;rcases Int.lt_trichotomy a b with h|h|h
 ·rw [show sgn (a - b)= -1 by unfold sgn;rw [if_pos (by omega)]];go_enter func124,ntmps124;go_wp2;go_ret;exact ⟨rfl,bi⟩
 ·subst h;rw [show sgn (a - a)=0 by unfold sgn;rw [if_neg (by omega),if_neg (by omega)]];go_enter func124,ntmps124;go_wp2;go_ret;exact ⟨rfl,bi⟩
 ·rw [show sgn (a - b)=1 by unfold sgn;rw [if_neg (by omega),if_pos (by omega)]];have h':¬a < b:=by omega
  go_enter func124,ntmps124;go_wp2;go_ret;exact ⟨rfl,bi⟩

section
variable {s a t b:Int} {A B:Option Addr} {n c m d:Nat} {w:World}
theorem joq {p:Addr} (h:Rep w s (some p) n c a) (h':Rep w t B m d b) (hl:Lim a) (hl':Lim b):
  Calls prog 124 #[iv s (some p) n c,iv t B m d] w fun e w'=>e= .returned (.int .i64 (sgn (a - b)))∧Below w.heap.size w w':=by
 have qe:=jak;have HR1:=qh (show ∀W,Below w.heap.size w W→Rep W (s) (some p) (n) (c) (a) from fun W hb=>h.below hb);have HR2:=qh (show ∀W,Below w.heap.size w W→Rep W (t) (B) (m) (d) (b) from fun W hb=>h'.below hb);have HL1:=qh hl;have HL2:=qh hl';clear h h' hl hl';go_enter func124,ntmps124
 go_wp2_with (first
  | (go_at_call 165;(with_reducible refine mi2 w (jiW (HR1.o _ bi) (HR2.o _ bi) HL1.o HL2.o) (by go_size) fun w1 s1 A1 n1 c1 hr1 hb1 hc1 hf1 z1_0 z1_1 _=> ?_))
  | (go_at_call 119;(with_reducible refine mo2 w (je5 hr1) (by go_size) fun w2 hb2 hc2 hf2 z2_0 z2_1 _=> ?_)))
 go_ret;exact ⟨rfl,bi⟩
theorem jlV {q:Addr} (h:Rep w s none n c a) (h':Rep w t (some q) m d b) (hl:Lim a) (hl':Lim b):
  Calls prog 124 #[iv s none n c,iv t (some q) m d] w fun e w'=>e= .returned (.int .i64 (sgn (a - b)))∧Below w.heap.size w w':=by
 have qe:=jak;have HR1:=qh (show ∀W,Below w.heap.size w W→Rep W (s) (none) (n) (c) (a) from fun W hb=>h.below hb);have HR2:=qh (show ∀W,Below w.heap.size w W→Rep W (t) (some q) (m) (d) (b) from fun W hb=>h'.below hb);have HL1:=qh hl;have HL2:=qh hl';clear h h' hl hl';go_enter func124,ntmps124
 go_wp2_with (first
  | (go_at_call 165;(with_reducible refine mi2 w (jiW (HR1.o _ bi) (HR2.o _ bi) HL1.o HL2.o) (by go_size) fun w1 s1 A1 n1 c1 hr1 hb1 hc1 hf1 z1_0 z1_1 _=> ?_))
  | (go_at_call 119;(with_reducible refine mo2 w (je5 hr1) (by go_size) fun w2 hb2 hc2 hf2 z2_0 z2_1 _=> ?_)))
 go_ret;exact ⟨rfl,bi⟩
theorem jrx (h:Rep w s A n c a) (h':Rep w t B m d b) (hl:Lim a) (hl':Lim b):
  Calls prog 124 #[iv s A n c,iv t B m d] w fun e w'=>e= .returned (.int .i64 (sgn (a - b)))∧Below w.heap.size w w':=by
 rcases A with _|p
 ·rcases B with _|q
  ·obtain ⟨rfl,rfl,rfl,_⟩:=h.none_;obtain ⟨rfl,rfl,rfl,_⟩:=h'.none_;exact jpy _ _ w
  ·exact jlV h h' hl hl'
 ·exact joq h h' hl hl'
end

def jcU (y z:Int) (w:World) (e:Ending) (w':World):Prop:=
 ∃s A n c t B m d,e= .returned (.tuple #[iv s A n c,iv t B m d])∧Rep w' s A n c y∧Rep w' t B m d z∧Below w.heap.size w w'
theorem jgL {y z s t:Int} {A B:Option Addr} {n c m d:Nat} {w w':World} {v:Value} (hv:v= .tuple #[iv s A n c,iv t B m d]) (h:Rep w' s A n c y) (h2:Rep w' t B m d z) (hb:Below w.heap.size w w'):jcU y z w (.returned v) w':=
 ⟨s,A,n,c,t,B,m,d,by rw [hv],h,h2,hb⟩

theorem jmS {a b:Int} (hb:0 < b) (h:a.tmod b < 0):a.tdiv b - 1=a / b∧a.tmod b+b=a % b:=by
 have h1:=Int.tmod_eq_emod (a:=a) (b:=b);have h2:=Int.tdiv_eq_ediv (a:=a) (b:=b);have h3:=Int.emod_nonneg a (show b≠0 by omega);have h4:=Int.emod_lt_of_pos a hb;rw [Int.sign_eq_one_of_pos hb] at h2;have h5:((b.natAbs:Nat):Int)=b:=by omega
 split at h1
 ·omega
 ·rename_i h6
  rw [if_neg h6] at h2;rw [h5] at h1;omega
theorem jly {a b:Int} (hb:0 < b) (h:0≤a.tmod b):a.tdiv b=a / b∧a.tmod b=a % b:=by
 have h1:=Int.tmod_eq_emod (a:=a) (b:=b);have h2:=Int.tdiv_eq_ediv (a:=a) (b:=b);have h3:=Int.emod_nonneg a (show b≠0 by omega);have h4:=Int.emod_lt_of_pos a hb;split at h1
 ·rename_i h6
  rw [if_pos h6] at h2;omega
 ·have h5:((b.natAbs:Nat):Int)=b:=by omega
  rw [h5] at h1;omega

theorem jga {a b:Int} (hp:0 < b) (ha:R64 a):R64 (a / b):=by
 have r1:=Int.emod_nonneg a (show b≠0 by omega);have r2:=Int.emod_lt_of_pos a hp;have h1:=Int.mul_ediv_add_emod a b;have h5:=ha.1;have h6:=ha.2;rcases Int.lt_or_le (a / b) 0 with h3|h3
 ·have h4:b*(a / b+1)≤1*(a / b+1):=Int.mul_le_mul_of_nonpos_right (by omega) (by omega);rw [Int.mul_add,Int.mul_one,Int.one_mul] at h4;exact ⟨by omega,by omega⟩
 ·have h4:1*(a / b)≤b*(a / b):=Int.mul_le_mul_of_nonneg_right (by omega) h3;exact ⟨by omega,by omega⟩

theorem jjh (a b:Int) (w:World) (ha:R64 a) (hb:R64 b) (hm:a≠ -9223372036854775808) (hp:0 < b):
  Calls prog 164 #[iv a none 0 0,iv b none 0 0] w (jcU (a / b) (a % b) w):=by
 have qe:=jak;have qb:(a != -9223372036854775808)=true:=by rw [bne_iff_ne];exact hm
 have hb0:(b==0)=false:=by rw [beq_eq_false_iff_ne];omega
 by_cases hr:a.tmod b < 0
 ·obtain ⟨e1,e2⟩:=jmS hp hr;rw [←e1,←e2];have r1:=Int.emod_nonneg a (show b≠0 by omega);have r2:=Int.emod_lt_of_pos a hp;obtain ⟨r3,r4⟩:=jga hp ha;obtain ⟨hb1,hb2⟩:=hb
  have r5:a / b < 0:=by
   have h1:a < 0:=by
    rcases Int.lt_or_le a 0 with h|h
    ·exact h
    ·have:=Int.tmod_nonneg b h;omega
   exact Int.ediv_neg_of_neg_of_pos h1 hp
  have H:=qh (show R64 (a.tdiv b - 1)∧R64 (a.tmod b+b) from ⟨⟨by omega,by omega⟩,⟨by omega,by omega⟩⟩);have w3:wrap64 (a.tdiv b - 1)=a.tdiv b - 1:=by unfold wrap64;omega
  have w4:wrap64 (a.tmod b+b)=a.tmod b+b:=by unfold wrap64;omega
  have w0:wrap64 (a.tdiv b)=a.tdiv b:=by unfold wrap64;omega
  have W0:=qh w0;have W3:=qh w3;have W4:=qh w4;clear r1 r2 r3 r4 r5 hb1 hb2 e1 e2 ha hm w0 w3 w4;go_enter func164,ntmps164;go_wp2
  go_quiet (fail)
  go_wp2
  go_quiet (fail)
  go_wp2;exact bodyPost_ret (v:= .tuple #[.agg #[.int .i64 (a.tdiv b - 1), .slice (none) (0) (0)], .agg #[.int .i64 (a.tmod b+b), .slice (none) (0) (0)]]) (by simp [results,results164,go_sem,W0.o,W3.o,W4.o]) rfl (jgL rfl (.small _ H.o.1.1 H.o.1.2) (.small _ H.o.2.1 H.o.2.2) (by exact bi))
 ·obtain ⟨e1,e2⟩:=jly hp (Int.not_lt.1 hr);rw [←e1,←e2];have r1:=Int.emod_nonneg a (show b≠0 by omega);have r2:=Int.emod_lt_of_pos a hp;obtain ⟨r3,r4⟩:=jga hp ha;obtain ⟨hb1,hb2⟩:=hb;have H:=qh (show R64 (a.tdiv b)∧R64 (a.tmod b) from ⟨⟨by omega,by omega⟩,⟨by omega,by omega⟩⟩);have w0:wrap64 (a.tdiv b)=a.tdiv b:=by unfold wrap64;omega
  have W0:=qh w0;clear r1 r2 r3 r4 hb1 hb2 e1 e2 ha hm w0;go_enter func164,ntmps164;go_wp2
  go_quiet (fail)
  go_wp2;exact bodyPost_ret (v:= .tuple #[.agg #[.int .i64 (a.tdiv b), .slice (none) (0) (0)], .agg #[.int .i64 (a.tmod b), .slice (none) (0) (0)]]) (by simp [results,results164,go_sem,W0.o]) rfl (jgL rfl (.small _ H.o.1.1 H.o.1.2) (.small _ H.o.2.1 H.o.2.2) (by exact bi))

theorem Rep.drew {w:World} {s z:Int} {A:Option Addr} {n c:Nat} (h:Rep w s A n c z):Rep w.drew s A n c z:=h.below ((Below.refl _ _).drew)
theorem Rep.drewN {w:World} {s z:Int} {A:Option Addr} {n c:Nat} (h:Rep w s A n c z) (k:Nat):Rep (w.drewN k) s A n c z:=h.below (jav (Below.refl _ _) k)
theorem Rep.alloc {w:World} {s z:Int} {A:Option Addr} {n c:Nat} (h:Rep w s A n c z) (o:Obj):Rep (w.alloc o) s A n c z:=h.below (ja5 (Below.refl _ _) o)
theorem rD {w:World} {s z:Int} {A:Option Addr} {n c:Nat} (h:Rep w s A n c z):Rep w.drew s A n c z:=h.drew
theorem rN {w:World} {s z:Int} {A:Option Addr} {n c k:Nat} (h:Rep w s A n c z):Rep (w.drewN k) s A n c z:=h.drewN k
theorem rA {w:World} {s z:Int} {A:Option Addr} {n c:Nat} {o:Obj} (h:Rep w s A n c z):Rep (w.alloc o) s A n c z:=h.alloc o
theorem rB {w w':World} {s z:Int} {A:Option Addr} {n c:Nat} (h:Rep w s A n c z) (hb:Below w.heap.size w w'):Rep w' s A n c z:=h.below hb
theorem Rep.put2 {w:World} {s z:Int} {A:Option Addr} {n c b o o':Nat} {u v:Value} (h:Rep w s A n c z) (ho:o'=o+1) (h1:∃x,w.cell? ⟨b,o,none⟩=some (.int .i64 x)) (h2:∃B m d,w.cell? ⟨b,o',none⟩=some (.slice B m d)):
  Rep ((w.setCell ⟨b,o,none⟩ u).setCell ⟨b,o',none⟩ v) s A n c z:=by
 obtain ⟨x,h1⟩:=h1;obtain ⟨B,m,d,h2⟩:=h2;exact h.put ho h1 h2

class Rst (w:outParam World) (w':World):Prop where p:∀{s z:Int} {A:Option Addr} {n c:Nat},Rep w s A n c z→Rep w' s A n c z
instance {w:World}:Rst w w.drew:=⟨rD⟩
instance {w:World} {k:Nat}:Rst w (w.drewN k):=⟨rN⟩
instance {w:World} {o:Obj}:Rst w (w.alloc o):=⟨rA⟩
instance {w w':World} [h:Bx w w']:Rst w w':=⟨fun k=>rB k h.p⟩
theorem rZ {w w':World} [h:Rst w w'] {s z:Int} {A:Option Addr} {n c:Nat} (k:Rep w s A n c z):Rep w' s A n c z:=h.p k
theorem rP {w:World} {s z:Int} {A:Option Addr} {n c b o o':Nat} {u v:Value} (h:Rep w s A n c z) (ho:o'=o+1) (h1:(∃x,w.cell? ⟨b,o,none⟩=some (.int .i64 x))∧∃B m d,w.cell? ⟨b,o',none⟩=some (.slice B m d)):
  Rep ((w.setCell ⟨b,o,none⟩ u).setCell ⟨b,o',none⟩ v) s A n c z:=h.put2 ho h1.1 h1.2
theorem jrM {a b:Int} (h:Lim a):Lim (sg (decide (a < 0)) (a.natAbs / b.natAbs)):=by
 refine ⟨?_⟩;rw [jd9];exact Nat.lt_of_le_of_lt (Nat.div_le_self _ _) h.lt
theorem jsp {a b:Int} (h:Lim a):Lim (sg (decide (a < 0)) (a.natAbs % b.natAbs)):=by
 refine ⟨?_⟩;rw [jd9];exact Nat.lt_of_le_of_lt (Nat.mod_le _ _) h.lt
theorem jjV {A A':Option Addr} {n c n' c' x y q r:Nat} {w:World} (hq:x / y=q) (hr:x % y=r) (h:NumW w A n c x) (h':NumW w A' n' c' y) (hx:Few x) (hy:0 < y):
  Calls prog 146 #[.slice A n c, .slice A' n' c'] w fun e w'=>∃A n c B m d,e= .returned (.tuple #[.slice A n c, .slice B m d])∧NumW w' A n c q∧NumW w' B m d r∧Below w.heap.size w w':=by
 subst hq hr;exact jld h h' hx hy
theorem jda {g:Bool} {A:Option Addr} {n c x:Nat} {w:World} {z:Int} (hz:sg g x=z) (h:NumW w A n c x):Calls prog 130 #[.bool g, .slice A n c] w (ja7 z w):=by
 subst hz;exact jas h
theorem jaR {s z v:Int} {A:Option Addr} {n c:Nat} {w:World} (hv:sgn z=v) (h:Rep w s A n c z):Calls prog 119 #[iv s A n c] w fun e w'=>e= .returned (.int .i64 v)∧Below w.heap.size w w':=by
 subst hv;exact je5 h



theorem joc {z:Int}:sgn z < 0↔z < 0:=by unfold sgn;split <;> (try split) <;> omega
theorem jvT {a b:Int} (hp:0 < b) (hs:0≤sgn (sg (decide (a < 0)) (a.natAbs % b.natAbs))):sg (decide (a < 0)) (a.natAbs / b.natAbs)=a / b∧sg (decide (a < 0)) (a.natAbs % b.natAbs)=a % b:=by
 have hs':¬sg (decide (a < 0)) (a.natAbs % b.natAbs) < 0:=fun h=>by have:=joc.2 h;omega
 obtain ⟨y,rfl⟩:∃y:Nat,b=(y:Int):=⟨b.natAbs,by omega⟩;rw [Int.natAbs_natCast] at*;by_cases h:a < 0
 ·obtain ⟨x,rfl⟩:∃x:Nat,a= -(x:Int):=⟨a.natAbs,by omega⟩;simp only [h,decide_true,sg,if_true,Int.natAbs_neg,Int.natAbs_natCast] at*;have h0:x % y=0:=by omega
  have hd:(y:Int) ∣ (x:Int):=Int.natCast_dvd_natCast.2 (Nat.dvd_of_mod_eq_zero h0);rw [h0,Int.neg_ediv_of_dvd hd,Int.natCast_ediv];refine ⟨rfl, ?_⟩;rw [Int.emod_eq_zero_of_dvd (Int.dvd_neg.2 hd)];rfl
 ·obtain ⟨x,rfl⟩:∃x:Nat,a=(x:Int):=⟨a.natAbs,by omega⟩;simp only [h,decide_false,sg,Int.natAbs_natCast] at*;exact ⟨rfl,rfl⟩
theorem jwl {a b:Int} (hp:0 < b) (hs:sgn (sg (decide (a < 0)) (a.natAbs % b.natAbs)) < 0):sg (decide (a < 0)) (a.natAbs / b.natAbs) - 1=a / b∧sg (decide (a < 0)) (a.natAbs % b.natAbs)+b=a % b:=by
 have hs':=joc.1 hs;obtain ⟨y,rfl⟩:∃y:Nat,b=(y:Int):=⟨b.natAbs,by omega⟩;rw [Int.natAbs_natCast] at*;by_cases h:a < 0
 ·obtain ⟨x,rfl⟩:∃x:Nat,a= -(x:Int):=⟨a.natAbs,by omega⟩;simp only [h,decide_true,sg,if_true,Int.natAbs_neg,Int.natAbs_natCast] at*;have h0:=Nat.mod_lt x (show 0 < y by omega);have h1:=Nat.div_add_mod x y
  have e: -(x:Int)=(y:Int)*(-((x / y:Nat):Int) - 1)+(-((x % y:Nat):Int)+y):=by
   rw [Int.mul_sub,Int.mul_neg,Int.mul_one,←Int.natCast_mul];omega
  have h2:(-((x % y:Nat):Int)+y) < (y:Int):=by omega
  have h3:0≤(-((x % y:Nat):Int)+y):=by omega
  constructor
  ·rw [e,Int.add_comm,Int.add_mul_ediv_left _ _ (by omega),Int.ediv_eq_zero_of_lt h3 h2,Int.zero_add]
  ·rw [e,Int.add_comm ((y:Int)*_),Int.add_mul_emod_self_left,Int.emod_eq_of_lt h3 h2]
 ·exfalso;simp only [h,decide_false,sg] at hs';simp at hs';omega

section
variable {s a t b:Int} {A B:Option Addr} {n c m d:Nat} {w:World}
theorem jcM (hcase:(∃p,A=some p)∨(A=none∧∃q,B=some q)∨(A=none∧B=none∧s= -9223372036854775808)) (h:Rep w s A n c a) (h':Rep w t B m d b) (hl:Lim a) (hl':Lim b) (hp:0 < b):
  Calls prog 164 #[iv s A n c,iv t B m d] w (jcU (a / b) (a % b) w):=by
 have qe:=jak;have heA:=jvT (a:=a) hp;have heB:=jwl (a:=a) hp;have HR1:=qh (show ∀W,Below w.heap.size w W→Rep W (s) (A) (n) (c) (a) from fun W hb=>h.below hb);have HR2:=qh (show ∀W,Below w.heap.size w W→Rep W (t) (B) (m) (d) (b) from fun W hb=>h'.below hb);have HL1:=qh hl.few;have HL2:=qh hl';have HLQ:=qh (jrM (b:=b) hl);have HLR:=qh (jsp (b:=b) hl);obtain ⟨x,hx⟩:∃x,(a).natAbs=x:=⟨_,rfl⟩;obtain ⟨y,hy⟩:∃y,(b).natAbs=y:=⟨_,rfl⟩;obtain ⟨g,hg⟩:∃g,decide (a < 0)=g:=⟨_,rfl⟩;obtain ⟨g',hg'⟩:∃g,decide (b < 0)=g:=⟨_,rfl⟩;obtain ⟨q,hq⟩:∃q,x / y=q:=⟨_,rfl⟩;obtain ⟨r,hr⟩:∃r,x % y=r:=⟨_,rfl⟩;obtain ⟨zq,hzq⟩:∃z,sg g q=z:=⟨_,rfl⟩;obtain ⟨zr,hzr⟩:∃z,sg g r=z:=⟨_,rfl⟩;obtain ⟨sv,hsv⟩:∃z,sgn zr=z:=⟨_,rfl⟩;have hy0:0 < y:=by omega
 rw [hx] at HL1;rw [hx,hy,hg,hq,hzq] at HLQ;rw [hx,hy,hg,hr,hzr] at HLR;have HX:=qh hx;have HY:=qh hy;have HG:=qh hg;have HG':=qh hg';have HQ:=qh hq;have HR:=qh hr;have HZQ:=qh hzq;have HZR:=qh hzr;have HSV:=qh hsv;have HY0:=qh hy0;clear h h' hl hl' hx hy hg hg' hq hr hzq hzr hsv hy0;rw [HX.o,HY.o,HG.o,HR.o,HQ.o,HZR.o,HZQ.o,HSV.o] at heA heB;have HEA:=qh heA;have HEB:=qh heB;have HCASE:=qh hcase;clear heA heB hp hcase;go_enter func164,ntmps164;go_upto_region 1 with (fail)
 go_cut [28] (fun v wx=>v= .bool false∧wx=(((w.alloc (.cells #[.int .i64 s, .slice A n c] 68)).alloc (.cells #[.int .i64 t, .slice B m d] 68)).alloc (.cells #[.int .i64 0, .slice none 0 0] 68)).alloc (.cells #[.int .i64 0, .slice none 0 0] 68))
 case first=>
  rcases HCASE.o with ⟨p,rfl⟩|⟨rfl,q,rfl⟩|⟨rfl,rfl,rfl⟩
  all_goals
   go_wp2;go_meet;exact ⟨rfl,rfl⟩
 case rest=>
  obtain ⟨rfl,rfl⟩:=hcut;by_cases hs:sv < 0
  ·have qs:decide (sv < 0)=true:=by simp;omega
   have HE:=qh (HEB.o hs);clear hs
   go_wp2_with (first
 | (go_at_call 129;(with_reducible refine (jah (HR1.o _ bi) HG.o HX.o).mono ?_);rintro e1 w1 ⟨A1,n1,c1,rfl,hr1,hb1⟩;obtain ⟨hc1,hf1,z1_0,z1_1,z1_2,z1_3,_⟩:=bc4 w hb1 (by go_size))
 | (go_at_call 129;(with_reducible refine (jah (HR2.o _ bi) HG'.o HY.o).mono ?_);rintro e2 w2 ⟨A2,n2,c2,rfl,hr2,hb2⟩;obtain ⟨hc2,hf2,z2_0,z2_1,z2_2,z2_3,_⟩:=bc4 w hb2 (by go_size))
 | (go_at_call 146;((with_reducible refine (jjV HQ.o HR.o (hr1.below hb2) hr2 HL1.o HY0.o).mono ?_);rintro e3 w3 ⟨A3,n3,c3,B3,m3,d3,rfl,hq3,hr3,hb3⟩;have _:=bm hb3);obtain ⟨hc3,hf3,z3_0,z3_1,z3_2,z3_3,_⟩:=bc4 w hb3 (by go_size))
 | (go_at_call 130;(with_reducible refine mi4 w (jda HZQ.o hq3) (by go_size) fun w4 s4 A4 n4 c4 hr4 hb4 hc4 hf4 z4_0 z4_1 z4_2 z4_3 _=> ?_))
 | (go_at_call 130;(with_reducible refine mi4 w (jda HZR.o (hr3.below hb4)) (by go_size) fun w5 s5 A5 n5 c5 hr5 hb5 hc5 hf5 z5_0 z5_1 z5_2 z5_3 _=> ?_))
 | ((go_at_call 119;(with_reducible refine mo4 w (jaR HSV.o (hr5.below bi)) (by go_size) fun w6 hb6 hc6 hf6 z6_0 z6_1 z6_2 z6_3 _=> ?_));have y6_0:w5.heap.size < w6.heap.size:=(by have:=hb6.size;(try simp at this);omega);have y6_1:w5.heap.size+1 < w6.heap.size:=(by have:=hb6.size;(try simp at this);omega)))
   refine ja1 (fun w'=>Below w6.heap.size w6 w') [6,7] (by kernel_rfl) ?_;refine jaw [2] (i:=0) (v:= .agg #[.int .i64 s4, .slice A4 n4 c4]) rfl (by kernel_rfl) (by kernel_rfl) (by kernel_rfl) (by kernel_rfl) (by kernel_rfl) (fun _ _ _ h=>h) (Or.inl ⟨by rfl, ?_⟩) bi ?_
   ·intro w' hS';obtain ⟨hcS,hfS⟩:=jhL hS';go_simp
   simp only [Act.put,List.setIfInBounds_toArray,List.set_cons_zero,List.set_cons_succ];refine jaw [5] (i:=3) (v:= .agg #[.int .i64 s5, .slice A5 n5 c5]) rfl (by kernel_rfl) (by kernel_rfl) (by kernel_rfl) (by kernel_rfl) (by kernel_rfl) (fun _ _ _ h=>h) (Or.inl ⟨by rfl, ?_⟩) bi ?_
   ·intro w' hS';obtain ⟨hcS,hfS⟩:=jhL hS';go_simp
   simp only [Act.put,List.setIfInBounds_toArray,List.set_cons_zero,List.set_cons_succ];refine jaw [5] (i:=4) (v:= .agg #[.int .i64 t, .slice B m d]) rfl (by kernel_rfl) (by kernel_rfl) (by kernel_rfl) (by kernel_rfl) (by kernel_rfl) (fun _ _ _ h=>h) (Or.inl ⟨by rfl, ?_⟩) bi ?_
   ·intro w' hS';obtain ⟨hcS,hfS⟩:=jhL hS';go_simp
   simp only [Act.put,List.setIfInBounds_toArray,List.set_cons_zero,List.set_cons_succ];refine ja4 (rs:=[1]) (by kernel_rfl) (by simp) (AllT.cons rfl (fun K hK=> ?_) AllT.nil);go_simp;go_wp2_with ((go_at_call 118;(with_reducible refine mi4 w (jg7 1 _ (by constructor <;> decide)) (by go_size) fun w7 s7 A7 n7 c7 hr7 hb7 hc7 hf7 z7_0 z7_1 z7_2 z7_3 _=> ?_));have y7_0:w5.heap.size < w7.heap.size:=(by have:=hb7.size;(try simp at this);omega);have y7_1:w5.heap.size+1 < w7.heap.size:=(by have:=hb7.size;(try simp at this);omega))
   refine hK.out _ _ (fun _=>bi) ?_;clear hK K;refine ja4 (rs:=[2]) (by kernel_rfl) (by simp) (AllT.cons rfl (fun K hK=> ?_) AllT.nil);go_simp;go_wp2_with ((go_at_call 165;(with_reducible refine mi4 w (jiW (a:=zq) (b:=1) (by with_reducible repeat first|assumption|apply rZ|refine rP ?_ rfl (by simp [go_sem,hc6,z5_0,z5_1,z5_2,z5_3,nl z5_0,nl z5_1,nl z5_2,nl z5_3,hc5,z4_2,z4_3,hc4,z3_2,z3_3,hc3,z2_2,z2_3,hc2,z1_2,z1_3,hc1])) (by with_reducible repeat first|assumption|apply rZ|refine rP ?_ rfl (by simp [go_sem,hc6,z5_0,z5_1,z5_2,z5_3,nl z5_0,nl z5_1,nl z5_2,nl z5_3,hc5,z4_2,z4_3,hc4,z3_2,z3_3,hc3,z2_2,z2_3,hc2,z1_2,z1_3,hc1])) HLQ.o (jeX (by constructor <;> decide))) (by go_size) fun w8 s8 A8 n8 c8 hr8 hb8 hc8 hf8 z8_0 z8_1 z8_2 z8_3 _=> ?_));have y8_0:w5.heap.size < w8.heap.size:=(by have:=hb8.size;(try simp at this);omega);have y8_1:w5.heap.size+1 < w8.heap.size:=(by have:=hb8.size;(try simp at this);omega))
   refine hK.out _ _ (fun _=>bi) ?_;clear hK K;refine ja4 (rs:=[5]) (by kernel_rfl) (by simp) (AllT.cons rfl (fun K hK=> ?_) AllT.nil);go_simp;go_wp2_with ((go_at_call 143;(with_reducible refine mi4 w (jdD (a:=zr) (b:=b) (by with_reducible repeat first|assumption|apply rZ|refine rP ?_ rfl (by simp [go_sem,hc6,z5_0,z5_1,z5_2,z5_3,nl z5_0,nl z5_1,nl z5_2,nl z5_3,hc5,z4_2,z4_3,hc4,z3_2,z3_3,hc3,z2_2,z2_3,hc2,z1_2,z1_3,hc1])) (HR2.o _ bi) HLR.o HL2.o) (by go_size) fun w9 s9 A9 n9 c9 hr9 hb9 hc9 hf9 z9_0 z9_1 z9_2 z9_3 _=> ?_));have y9_0:w5.heap.size < w9.heap.size:=(by have:=hb9.size;(try simp at this);omega);have y9_1:w5.heap.size+1 < w9.heap.size:=(by have:=hb9.size;(try simp at this);omega))
   refine hK.out _ _ (fun _=>bi) ?_;clear hK K;refine ja4 (rs:=[6]) (by kernel_rfl) (by simp) (AllT.cons rfl (fun K hK=> ?_) AllT.nil);go_simp;refine hK.out _ _ (fun h=>(h (by decide)).elim) ?_;clear hK K;refine ja4 (rs:=[7]) (by kernel_rfl) (by simp) (AllT.cons rfl (fun K hK=> ?_) AllT.nil);go_simp;refine hK.out _ _ (fun h=>(h (by decide)).elim) ?_;clear hK K;refine ja2 (by kernel_rfl) ?_ _;go_wp2;have f0:w9.cell? ⟨w5.heap.size,0,none⟩=some (.int .i64 s4):=by simp [go_sem,hc9,hc8,hc7,z8_2,z8_3,z7_2,z7_3,z6_2,z6_3,y8_0,y8_1,y7_0,y7_1,y6_0,y6_1,Nat.ne_of_gt z5_0,Nat.ne_of_gt z5_1,Nat.ne_of_gt z5_2,Nat.ne_of_gt z5_3,hc6,z5_0,z5_1,z5_2,z5_3,nl z5_0,nl z5_1,nl z5_2,nl z5_3,hc5,z4_2,z4_3,hc4,z3_2,z3_3,hc3,z2_2,z2_3,hc2,z1_2,z1_3,hc1]
   have f1:w9.cell? ⟨w5.heap.size,1,none⟩=some (.slice A4 n4 c4):=by simp [go_sem,hc9,hc8,hc7,z8_2,z8_3,z7_2,z7_3,z6_2,z6_3,y8_0,y8_1,y7_0,y7_1,y6_0,y6_1,Nat.ne_of_gt z5_0,Nat.ne_of_gt z5_1,Nat.ne_of_gt z5_2,Nat.ne_of_gt z5_3,hc6,z5_0,z5_1,z5_2,z5_3,nl z5_0,nl z5_1,nl z5_2,nl z5_3,hc5,z4_2,z4_3,hc4,z3_2,z3_3,hc3,z2_2,z2_3,hc2,z1_2,z1_3,hc1]
   have f2:w9.cell? ⟨w5.heap.size+1,0,none⟩=some (.int .i64 s5):=by simp [go_sem,hc9,hc8,hc7,z8_2,z8_3,z7_2,z7_3,z6_2,z6_3,y8_0,y8_1,y7_0,y7_1,y6_0,y6_1,Nat.ne_of_gt z5_0,Nat.ne_of_gt z5_1,Nat.ne_of_gt z5_2,Nat.ne_of_gt z5_3,hc6,z5_0,z5_1,z5_2,z5_3,nl z5_0,nl z5_1,nl z5_2,nl z5_3,hc5,z4_2,z4_3,hc4,z3_2,z3_3,hc3,z2_2,z2_3,hc2,z1_2,z1_3,hc1]
   have f3:w9.cell? ⟨w5.heap.size+1,1,none⟩=some (.slice A5 n5 c5):=by simp [go_sem,hc9,hc8,hc7,z8_2,z8_3,z7_2,z7_3,z6_2,z6_3,y8_0,y8_1,y7_0,y7_1,y6_0,y6_1,Nat.ne_of_gt z5_0,Nat.ne_of_gt z5_1,Nat.ne_of_gt z5_2,Nat.ne_of_gt z5_3,hc6,z5_0,z5_1,z5_2,z5_3,nl z5_0,nl z5_1,nl z5_2,nl z5_3,hc5,z4_2,z4_3,hc4,z3_2,z3_3,hc3,z2_2,z2_3,hc2,z1_2,z1_3,hc1]
   have f4:w9.cell? ⟨w.heap.size+1+1,0,none⟩=some (.int .i64 0):=by simp [go_sem,hc9,hc8,hc7,z8_2,z8_3,z7_2,z7_3,z6_2,z6_3,y8_0,y8_1,y7_0,y7_1,y6_0,y6_1,Nat.ne_of_gt z5_0,Nat.ne_of_gt z5_1,Nat.ne_of_gt z5_2,Nat.ne_of_gt z5_3,hc6,z5_0,z5_1,z5_2,z5_3,nl z5_0,nl z5_1,nl z5_2,nl z5_3,hc5,z4_2,z4_3,hc4,z3_2,z3_3,hc3,z2_2,z2_3,hc2,z1_2,z1_3,hc1]
   have f5:w9.cell? ⟨w.heap.size+1+1,1,none⟩=some (.slice none 0 0):=by simp [go_sem,hc9,hc8,hc7,z8_2,z8_3,z7_2,z7_3,z6_2,z6_3,y8_0,y8_1,y7_0,y7_1,y6_0,y6_1,Nat.ne_of_gt z5_0,Nat.ne_of_gt z5_1,Nat.ne_of_gt z5_2,Nat.ne_of_gt z5_3,hc6,z5_0,z5_1,z5_2,z5_3,nl z5_0,nl z5_1,nl z5_2,nl z5_3,hc5,z4_2,z4_3,hc4,z3_2,z3_3,hc3,z2_2,z2_3,hc2,z1_2,z1_3,hc1]
   have f6:w9.cell? ⟨w.heap.size+1+1+1,0,none⟩=some (.int .i64 0):=by simp [go_sem,hc9,hc8,hc7,z8_2,z8_3,z7_2,z7_3,z6_2,z6_3,y8_0,y8_1,y7_0,y7_1,y6_0,y6_1,Nat.ne_of_gt z5_0,Nat.ne_of_gt z5_1,Nat.ne_of_gt z5_2,Nat.ne_of_gt z5_3,hc6,z5_0,z5_1,z5_2,z5_3,nl z5_0,nl z5_1,nl z5_2,nl z5_3,hc5,z4_2,z4_3,hc4,z3_2,z3_3,hc3,z2_2,z2_3,hc2,z1_2,z1_3,hc1]
   have f7:w9.cell? ⟨w.heap.size+1+1+1,1,none⟩=some (.slice none 0 0):=by simp [go_sem,hc9,hc8,hc7,z8_2,z8_3,z7_2,z7_3,z6_2,z6_3,y8_0,y8_1,y7_0,y7_1,y6_0,y6_1,Nat.ne_of_gt z5_0,Nat.ne_of_gt z5_1,Nat.ne_of_gt z5_2,Nat.ne_of_gt z5_3,hc6,z5_0,z5_1,z5_2,z5_3,nl z5_0,nl z5_1,nl z5_2,nl z5_3,hc5,z4_2,z4_3,hc4,z3_2,z3_3,hc3,z2_2,z2_3,hc2,z1_2,z1_3,hc1]
   have g0:∀o,w9.frozen? ⟨w.heap.size+1+1,o,none⟩=false:=by intro o;simp [go_sem,hf9,hf8,hf7,hf6,hf5,hf4,hf3,hf2,hf1,z5_0,z5_1,z8_2,z8_3,z7_2,z7_3,z6_2,z6_3,z5_2,z5_3,z4_2,z4_3,z3_2,z3_3,z2_2,z2_3,z1_2,z1_3,nl z5_0,nl z5_1,nl z5_2,nl z5_3]
   have g1:∀o,w9.frozen? ⟨w.heap.size+1+1+1,o,none⟩=false:=by intro o;simp [go_sem,hf9,hf8,hf7,hf6,hf5,hf4,hf3,hf2,hf1,z5_0,z5_1,z8_2,z8_3,z7_2,z7_3,z6_2,z6_3,z5_2,z5_3,z4_2,z4_3,z3_2,z3_3,z2_2,z2_3,z1_2,z1_3,nl z5_0,nl z5_1,nl z5_2,nl z5_3]
   have hn2:w.heap.size+1+1≠w5.heap.size:=nl z5_2;have hn3:w.heap.size+1+1+1≠w5.heap.size:=nl z5_3;clear hc1 hc2 hc3 hc4 hc5 hc6 hc7 hc8 hc9 hf1 hf2 hf3 hf4 hf5 hf6 hf7 hf8 hf9
   go_region
   go_wp2;have e1:Rep w9 s9 A9 n9 c9 (a % b):=hr9.to HE.o.2;have e2:Rep w8 s8 A8 n8 c8 (a / b):=hr8.to HE.o.1;exact bodyPost_ret (v:= .tuple #[.agg #[.int .i64 (s8), .slice (A8) (n8) (c8)], .agg #[.int .i64 (s9), .slice (A9) (n9) (c9)]]) (by simp [results,results164,go_sem,f0,f1,f2,f3,f4,f5,f6,f7,hn2,hn3,Ne.symm hn2,Ne.symm hn3,nl z5_0,nl z5_1,Nat.ne_of_gt z5_0,Nat.ne_of_gt z5_1]) rfl (jgL rfl ((by with_reducible repeat first|assumption|apply rZ|refine rP ?_ rfl (by simp [go_sem,f0,f1,f2,f3,f4,f5,f6,f7,hn2,hn3,Ne.symm hn2,Ne.symm hn3,nl z5_0,nl z5_1,Nat.ne_of_gt z5_0,Nat.ne_of_gt z5_1]))) ((by with_reducible repeat first|assumption|apply rZ|refine rP ?_ rfl (by simp [go_sem,f0,f1,f2,f3,f4,f5,f6,f7,hn2,hn3,Ne.symm hn2,Ne.symm hn3,nl z5_0,nl z5_1,Nat.ne_of_gt z5_0,Nat.ne_of_gt z5_1]))) (by exact bi))
  ·have qs:decide (sv < 0)=false:=by simp;omega
   have HE:=qh (HEA.o (Int.not_lt.1 hs));clear hs
   go_wp2_with (first
 | (go_at_call 129;(with_reducible refine (jah (HR1.o _ bi) HG.o HX.o).mono ?_);rintro e1 w1 ⟨A1,n1,c1,rfl,hr1,hb1⟩;obtain ⟨hc1,hf1,z1_0,z1_1,z1_2,z1_3,_⟩:=bc4 w hb1 (by go_size))
 | (go_at_call 129;(with_reducible refine (jah (HR2.o _ bi) HG'.o HY.o).mono ?_);rintro e2 w2 ⟨A2,n2,c2,rfl,hr2,hb2⟩;obtain ⟨hc2,hf2,z2_0,z2_1,z2_2,z2_3,_⟩:=bc4 w hb2 (by go_size))
 | (go_at_call 146;((with_reducible refine (jjV HQ.o HR.o (hr1.below hb2) hr2 HL1.o HY0.o).mono ?_);rintro e3 w3 ⟨A3,n3,c3,B3,m3,d3,rfl,hq3,hr3,hb3⟩;have _:=bm hb3);obtain ⟨hc3,hf3,z3_0,z3_1,z3_2,z3_3,_⟩:=bc4 w hb3 (by go_size))
 | (go_at_call 130;(with_reducible refine mi4 w (jda HZQ.o hq3) (by go_size) fun w4 s4 A4 n4 c4 hr4 hb4 hc4 hf4 z4_0 z4_1 z4_2 z4_3 _=> ?_))
 | (go_at_call 130;(with_reducible refine mi4 w (jda HZR.o (hr3.below hb4)) (by go_size) fun w5 s5 A5 n5 c5 hr5 hb5 hc5 hf5 z5_0 z5_1 z5_2 z5_3 _=> ?_))
 | ((go_at_call 119;(with_reducible refine mo4 w (jaR HSV.o (hr5.below bi)) (by go_size) fun w6 hb6 hc6 hf6 z6_0 z6_1 z6_2 z6_3 _=> ?_));have y6_0:w5.heap.size < w6.heap.size:=(by have:=hb6.size;(try simp at this);omega);have y6_1:w5.heap.size+1 < w6.heap.size:=(by have:=hb6.size;(try simp at this);omega)))
   go_region
   go_wp2;have e1:Rep w5 s5 A5 n5 c5 (a % b):=hr5.to HE.o.2;have e2:Rep w4 s4 A4 n4 c4 (a / b):=hr4.to HE.o.1;exact bodyPost_ret (v:= .tuple #[.agg #[.int .i64 (s4), .slice (A4) (n4) (c4)], .agg #[.int .i64 (s5), .slice (A5) (n5) (c5)]]) (by simp [results,results164,go_sem,hc6,z5_0,z5_1,z5_2,z5_3,nl z5_0,nl z5_1,nl z5_2,nl z5_3,hc5,z4_2,z4_3,hc4,z3_2,z3_3,hc3,z2_2,z2_3,hc2,z1_2,z1_3,hc1]) rfl (jgL rfl ((by with_reducible repeat first|assumption|apply rZ|refine rP ?_ rfl (by simp [go_sem,hc6,z5_0,z5_1,z5_2,z5_3,nl z5_0,nl z5_1,nl z5_2,nl z5_3,hc5,z4_2,z4_3,hc4,z3_2,z3_3,hc3,z2_2,z2_3,hc2,z1_2,z1_3,hc1]))) ((by with_reducible repeat first|assumption|apply rZ|refine rP ?_ rfl (by simp [go_sem,hc6,z5_0,z5_1,z5_2,z5_3,nl z5_0,nl z5_1,nl z5_2,nl z5_3,hc5,z4_2,z4_3,hc4,z3_2,z3_3,hc3,z2_2,z2_3,hc2,z1_2,z1_3,hc1]))) (by exact bi))
end
end Go.Proofs.YtfagcpcikjlboaaGreatDoor
