/- Parts. -/
import Derived.Test.YthciialjockjmaaGreatDoorId
set_option linter.all false
set_option maxRecDepth 100000
set_option maxHeartbeats 8000000
namespace Go.Proofs.YthciialjockjmaaGreatDoor
open Go Go.RowKit

section
variable {s a t b:Int} {A B:Option Addr} {n c m d:Nat} {w:World}
theorem Rep.none_ (h:Rep w s none n c a):s=a∧n=0∧c=0∧R64 a:=by
 cases h with
 | small _ h0 h1=>exact ⟨rfl,rfl,rfl,h0,h1⟩
 | plus _ _ _ ds h=>obtain ⟨b,o,e,_⟩:=h.wd.at_ h.pos;cases e
 | minus _ _ _ ds h=>obtain ⟨b,o,e,_⟩:=h.wd.at_ h.pos;cases e

theorem jmx (a b:Int) (w:World) (h:R64 (a+b)):
  Calls Tryz.prog 86 #[iv a none 0 0,iv b none 0 0] w (jaa (a+b) w):=by
 have qe:=jaq
 have qb:(decide (a < a+b)==decide (0 < b))=true:=by rw [beq_iff_eq,decide_eq_decide];omega
 have hw:wrap64 (a+b)=a+b:=by have:=h.1;have:=h.2;unfold wrap64;omega
 have H:=qh h
 clear h
 go_enter Tryz.func86,Tryz.ntmps86
 go_wp2
 exact bodyPost_ret (v:= .agg #[.int .i64 (a+b), .slice (none) (0) (0)]) (by simp [results,Tryz.results86,go_sem]) rfl (jaj rfl (.small _ H.out.1 H.out.2) (bq (by with_reducible repeat' first|assumption|constructor|go_size)))

theorem jcR (h:Rep w s A n c a) (h':Rep w t B m d b) (hl:Lim a) (hl':Lim b):Calls Tryz.prog 86 #[iv s A n c,iv t B m d] w (jaa (a+b) w):=by
 rcases A with _|p
 ·rcases B with _|q
  ·by_cases hr:R64 (a+b)
   ·obtain ⟨rfl,rfl,rfl,_⟩:=h.none_
    obtain ⟨rfl,rfl,rfl,_⟩:=h'.none_
    exact jmx _ _ w hr
   ·refine jgS rfl ?_ h h' hl hl'
    obtain ⟨rfl,_,_,h1,h2⟩:=h.none_
    obtain ⟨rfl,_,_,h3,h4⟩:=h'.none_
    have h5:s+t < -9223372036854775808∨9223372036854775808≤s+t:=by
     rcases Int.lt_or_le (s+t) (-9223372036854775808) with h6|h6
     ·exact Or.inl h6
     ·rcases Int.lt_or_le (s+t) 9223372036854775808 with h7|h7
      ·exact absurd ⟨h6,h7⟩ hr
      ·exact Or.inr h7
    rcases h5 with h5|h5
    ·have e:wrap64 (s+t)=s+t+18446744073709551616:=by unfold wrap64;omega
     rw [e,show decide (s < s+t+18446744073709551616)=true by simp;omega,show decide (0 < t)=false by simp;omega]
     rfl
    ·have e:wrap64 (s+t)=s+t - 18446744073709551616:=by unfold wrap64;omega
     rw [e,show decide (s < s+t - 18446744073709551616)=false by simp;omega,show decide (0 < t)=true by simp;omega]
     rfl
  ·exact jfJ h h' hl hl'
 ·exact jgQ h h' hl hl'

theorem jca {z:Int} (h:R64 z):Lim z:=by
 have h1:=Nat.pow_le_pow_right ja9 (show 1≤100000 by omega)
 rw [Nat.pow_one] at h1
 have h2:z.natAbs < B64:=by rw [ja8];have:=h.1;have:=h.2;omega
 exact ⟨Nat.lt_of_lt_of_le h2 h1⟩
theorem Lim.neg {z:Int} (h:Lim z):Lim (-z):=⟨by rw [Int.natAbs_neg];exact h.lt⟩
theorem jhq (h:Rep w s A n c a) (h':Rep w t B m d b) (hl:Lim a) (hl':Lim b):Calls Tryz.prog 127 #[iv s A n c,iv t B m d] w (jaa (a - b) w):=by
 have HR1:=qh (show ∀W,Below w.heap.size w W→Rep W s A n c a from fun W hb=>h.below hb)
 have HR2:=qh (show ∀W,Below w.heap.size w W→Rep W t B m d b from fun W hb=>h'.below hb)
 have HL1:=qh hl
 have HL2:=qh hl'.neg
 clear h h' hl hl'
 go_enter Tryz.func127,Tryz.ntmps127
 go_wp2
 go_region_held3 (fun w'=>w'.cell? ⟨w.heap.size,0,none⟩=some (.int .i64 s)∧w'.cell? ⟨w.heap.size,1,none⟩=some (.slice A n c)∧w'.cell? ⟨w.heap.size+1,0,none⟩=some (.int .i64 t)∧w'.cell? ⟨w.heap.size+1,1,none⟩=some (.slice B m d))
  (refine ⟨?_, ?_, ?_, ?_⟩ <;> first|(go_keep;done)|(go_split_ands;exact ja6 hb2 (by assumption))|(go_split_ands;exact ja6 hb1 (by assumption))|(go_split_ands;(repeat rw [World.cell?_setCell_far _ _ _ _ (by dsimp only;omega)]);assumption))
  (first
    | (go_at_call 100;(with_reducible refine (neg_num (HR2.out _ (bq (by with_reducible repeat' first|assumption|constructor|go_size)))).mono ?_);rintro e1 w1 ⟨s1,A1,n1,c1,rfl,hr1,hb1⟩;obtain ⟨hc1,hf1,z1_0,z1_1,z1_2⟩:=bc3 w hb1 (by go_size);(try simp only [dw] at hc1 hf1))
    | (go_at_call 86;(with_reducible refine (jcR (HR1.out _ (bq (by with_reducible repeat' first|assumption|constructor|go_size))) hr1 HL1.out HL2.out).mono ?_);rintro e2 w2 ⟨s2,A2,n2,c2,rfl,hr2,hb2⟩;obtain ⟨hc2,hf2,z2_0,z2_1,z2_2⟩:=bc3 w hb2 (by go_size);(try simp only [dw] at hc2 hf2)))
 go_wp2
 exact bodyPost_ret (v:= .agg #[.int .i64 (s2), .slice (A2) (n2) (c2)]) (by simp [results,Tryz.results127,go_sem,hc2,z1_2,hc1]) rfl (jaj rfl ((hr2.put (x:=0) (B:=none) (m:=0) (d:=0) rfl (by simp [go_sem,hc2,z1_2,hc1]) (by simp [go_sem,hc2,z1_2,hc1])).to ((Int.sub_eq_add_neg).symm)) (bq (by with_reducible repeat' first|assumption|constructor|go_size)))
end

theorem jei (x y h l:Nat) (hx:x < B64) (hy:y < B64) (eh:h=x*y / B64) (el:l=x*y % B64) (W:World) (n:Nat):
  Calls Tryz.prog 153 #[.int .u64 x, .int .u64 y] (W.drewN n) fun e w'=>e= .returned (.tuple #[.int .u64 (h:Int), .int .u64 (l:Int)])∧∃m,w'=W.drewN m:=
 (jat x y h l hx hy eh el _).mono fun e w' ⟨he,hw⟩=>⟨he,n,hw⟩


theorem jmh (a b:Int) (w:World) (ha:R64 a) (hb:R64 b) (hr:a.natAbs*b.natAbs≤9223372036854775807):
  Calls Tryz.prog 102 #[iv a none 0 0,iv b none 0 0] w (jaa (a*b) w):=by
 have qe:=jaq
 obtain ⟨x,hx⟩:∃x,(a).natAbs=x:=⟨_,rfl⟩
 obtain ⟨y,hy⟩:∃y,(b).natAbs=y:=⟨_,rfl⟩
 have hSx:=fun W n=>jcA a W ha.1 ha.2 n
 have hSy:=fun W n=>jcA b W hb.1 hb.2 n
 have hxB:x < B64:=by rw [ja8];omega
 have hyB:y < B64:=by rw [ja8];omega
 rw [hx] at hSx
 rw [hy] at hSy
 obtain ⟨hi,ehi⟩:∃hi,hi=x*y / B64:=⟨_,rfl⟩
 obtain ⟨lo,elo⟩:∃lo,lo=x*y % B64:=⟨_,rfl⟩
 have hM:=fun W n=>jei x y hi lo hxB hyB ehi elo W n
 have MX:=qh hSx
 have MY:=qh hSy
 have MM:=qh hM
 have hlt:x*y < B64:=by rw [ja8];rw [hx,hy] at hr;omega
 have hi0:hi=0:=by rw [ehi];exact Nat.div_eq_of_lt hlt
 have lo0:lo=x*y:=by rw [elo];exact Nat.mod_eq_of_lt hlt
 have b0:((hi:Int)==0)=true:=by simp [hi0]
 have hll:lo≤9223372036854775807:=by rw [lo0,←hx,←hy];exact hr
 have b1:decide ((lo:Int)≤9223372036854775807)=true:=by simp;omega
 have hcv:IntKind.i64.wrap (lo:Int)=(lo:Int):=by simp [IntKind.wrap,IntKind.bits,IntKind.signed];omega
 have hcn:wrap64 (-(lo:Int))= -(lo:Int):=by unfold wrap64;omega
 have hab:a.natAbs*b.natAbs=lo:=by rw [hx,hy,lo0]
 have HAB:=qh hab
 have HLL:=qh hll
 by_cases hd:decide (a < 0)=decide (b < 0)
 ·have qd:(decide (a < 0)==decide (b < 0))=true:=by simp [hd]
  have he:a*b=(lo:Int):=by
   rw [←HAB.out]
   rw [decide_eq_decide] at hd
   rcases Int.lt_or_le a 0 with h1|h1
   ·have h2:=hd.1 h1
    rw [Int.natCast_mul,show ((a.natAbs:Nat):Int)= -a by omega,show ((b.natAbs:Nat):Int)= -b by omega,Int.neg_mul_neg]
   ·have h2:¬b < 0:=fun h=>absurd (hd.2 h) (by omega)
    rw [Int.natCast_mul,show ((a.natAbs:Nat):Int)=a by omega,show ((b.natAbs:Nat):Int)=b by omega]
  rw [he]
  clear hd ha hb hr hx hy hSx hSy hxB hyB ehi elo hM hlt hi0 lo0 hll hab he
  go_enter Tryz.func102,Tryz.ntmps102
  go_wp2
  go_quiet ((first|(go_at_call 154;with_reducible exact MX.out _ _)|(go_at_call 154;with_reducible exact MY.out _ _)|(go_at_call 153;with_reducible exact MM.out _ _)))
  go_wp2
  exact bodyPost_ret (v:= .agg #[.int .i64 ((lo:Int)), .slice (none) (0) (0)]) (by simp [results,Tryz.results102,go_sem]) rfl (jaj rfl (.small _ (by omega) (by have:=HLL.out;omega)) (bq (by with_reducible repeat' first|assumption|constructor|go_size)))
 ·have qd:(decide (a < 0)==decide (b < 0))=false:=by rw [beq_eq_false_iff_ne];exact hd
  have he:a*b= -(lo:Int):=by
   rw [←HAB.out]
   rw [decide_eq_decide] at hd
   rcases Int.lt_or_le a 0 with h1|h1
   ·have h2:¬b < 0:=fun h=>hd ⟨fun _=>h,fun _=>h1⟩
    rw [Int.natCast_mul,show ((a.natAbs:Nat):Int)= -a by omega,show ((b.natAbs:Nat):Int)=b by omega,Int.neg_mul,Int.neg_neg]
   ·have h2:b < 0:=by
     rcases Int.lt_or_le b 0 with h|h
     ·exact h
     ·exact absurd ⟨fun h3=>absurd h3 (by omega),fun h3=>absurd h3 (by omega)⟩ hd
    rw [Int.natCast_mul,show ((a.natAbs:Nat):Int)=a by omega,show ((b.natAbs:Nat):Int)= -b by omega,Int.mul_neg,Int.neg_neg]
  rw [he]
  clear hd ha hb hr hx hy hSx hSy hxB hyB ehi elo hM hlt hi0 lo0 hll hab he
  go_enter Tryz.func102,Tryz.ntmps102
  go_wp2
  go_quiet ((first|(go_at_call 154;with_reducible exact MX.out _ _)|(go_at_call 154;with_reducible exact MY.out _ _)|(go_at_call 153;with_reducible exact MM.out _ _)))
  go_wp2
  exact bodyPost_ret (v:= .agg #[.int .i64 (-(lo:Int)), .slice (none) (0) (0)]) (by simp [results,Tryz.results102,go_sem]) rfl (jaj rfl (.small _ (by have:=HLL.out;omega) (by omega)) (bq (by with_reducible repeat' first|assumption|constructor|go_size)))

theorem ji8 {a b:Int} {g g':Bool} {x y:Nat} (h1:a=sg g x) (h2:b=sg g' y):sg (!g==g') (x*y)=a*b:=by
 subst h1 h2
 cases g <;> cases g' <;> simp [sg,Int.neg_mul,Int.mul_neg]


section
variable {s a t b:Int} {A B:Option Addr} {n c m d:Nat} {w:World}
theorem jlR {p:Addr} (h:Rep w s (some p) n c a) (h':Rep w t B m d b) (hl:Lim a) (hl':Lim b):
  Calls Tryz.prog 102 #[iv s (some p) n c,iv t B m d] w (jaa (a*b) w):=by
 have qe:=jaq
 have HR1:=qh (show ∀W,Below w.heap.size w W→Rep W (s) (some p) (n) (c) (a) from fun W hb=>h.below hb)
 have HR2:=qh (show ∀W,Below w.heap.size w W→Rep W (t) (B) (m) (d) (b) from fun W hb=>h'.below hb)
 have HL1:=qh hl.few
 have HL2:=qh hl'.few
 obtain ⟨x',hx'⟩:∃x,(a).natAbs=x:=⟨_,rfl⟩
 obtain ⟨y',hy'⟩:∃y,(b).natAbs=y:=⟨_,rfl⟩
 obtain ⟨g,hg⟩:∃g,decide (a < 0)=g:=⟨_,rfl⟩
 obtain ⟨g',hg'⟩:∃g,decide (b < 0)=g:=⟨_,rfl⟩
 rw [hx'] at HL1
 rw [hy'] at HL2
 have HX:=qh hx'
 have HY:=qh hy'
 have HG:=qh hg
 have HG':=qh hg'
 clear h h' hl hl' hx' hy' hg hg'
 go_enter Tryz.func102,Tryz.ntmps102
 go_wp2_with (first
 | (go_at_call 124;(with_reducible refine (jak (HR1.out _ (bq (by with_reducible repeat' first|assumption|constructor|go_size))) HG.out HX.out).mono ?_);rintro e1 w1 ⟨A1,n1,c1,rfl,hr1,hb1⟩;obtain ⟨hc1,hf1,z1_0,z1_1,z1_2⟩:=bc3 w hb1 (by go_size);(try simp only [dw] at hc1 hf1))
 | (go_at_call 124;(with_reducible refine (jak (HR2.out _ (bq (by with_reducible repeat' first|assumption|constructor|go_size))) HG'.out HY.out).mono ?_);rintro e2 w2 ⟨A2,n2,c2,rfl,hr2,hb2⟩;obtain ⟨hc2,hf2,z2_0,z2_1,z2_2⟩:=bc3 w hb2 (by go_size);(try simp only [dw] at hc2 hf2))
 | (go_at_call 155;(with_reducible refine (jbC (hr1.below hb2) hr2 HL1.out HL2.out).mono ?_);rintro e3 w3 ⟨A3,n3,c3,rfl,hr3,hb3⟩;obtain ⟨hc3,hf3,z3_0,z3_1,z3_2⟩:=bc3 w hb3 (by go_size);(try simp only [dw] at hc3 hf3))
 | (go_at_call 126;(with_reducible refine (jaB hr3).mono ?_);rintro e4 w4 ⟨s4,A4,n4,c4,rfl,hr4,hb4⟩;obtain ⟨hc4,hf4,z4_0,z4_1,z4_2⟩:=bc3 w hb4 (by go_size);(try simp only [dw] at hc4 hf4)))
 exact bodyPost_ret (v:= .agg #[.int .i64 (s4), .slice (A4) (n4) (c4)]) (by simp [results,Tryz.results102,go_sem,hc4,z3_2,hc3,z2_2,hc2,z1_2,hc1]) rfl (jaj rfl ((hr4.put (x:=0) (B:=none) (m:=0) (d:=0) rfl (by simp [go_sem,hc4,z3_2,hc3,z2_2,hc2,z1_2,hc1]) (by simp [go_sem,hc4,z3_2,hc3,z2_2,hc2,z1_2,hc1])).to (ji8 (jbj HG.out HX.out) (jbj HG'.out HY.out))) (bq (by with_reducible repeat' first|assumption|constructor|go_size)))
theorem jkT {q:Addr} (h:Rep w s none n c a) (h':Rep w t (some q) m d b) (hl:Lim a) (hl':Lim b):
  Calls Tryz.prog 102 #[iv s none n c,iv t (some q) m d] w (jaa (a*b) w):=by
 have qe:=jaq
 have HR1:=qh (show ∀W,Below w.heap.size w W→Rep W (s) (none) (n) (c) (a) from fun W hb=>h.below hb)
 have HR2:=qh (show ∀W,Below w.heap.size w W→Rep W (t) (some q) (m) (d) (b) from fun W hb=>h'.below hb)
 have HL1:=qh hl.few
 have HL2:=qh hl'.few
 obtain ⟨x',hx'⟩:∃x,(a).natAbs=x:=⟨_,rfl⟩
 obtain ⟨y',hy'⟩:∃y,(b).natAbs=y:=⟨_,rfl⟩
 obtain ⟨g,hg⟩:∃g,decide (a < 0)=g:=⟨_,rfl⟩
 obtain ⟨g',hg'⟩:∃g,decide (b < 0)=g:=⟨_,rfl⟩
 rw [hx'] at HL1
 rw [hy'] at HL2
 have HX:=qh hx'
 have HY:=qh hy'
 have HG:=qh hg
 have HG':=qh hg'
 clear h h' hl hl' hx' hy' hg hg'
 go_enter Tryz.func102,Tryz.ntmps102
 go_wp2_with (first
 | (go_at_call 124;(with_reducible refine (jak (HR1.out _ (bq (by with_reducible repeat' first|assumption|constructor|go_size))) HG.out HX.out).mono ?_);rintro e1 w1 ⟨A1,n1,c1,rfl,hr1,hb1⟩;obtain ⟨hc1,hf1,z1_0,z1_1,z1_2⟩:=bc3 w hb1 (by go_size);(try simp only [dw] at hc1 hf1))
 | (go_at_call 124;(with_reducible refine (jak (HR2.out _ (bq (by with_reducible repeat' first|assumption|constructor|go_size))) HG'.out HY.out).mono ?_);rintro e2 w2 ⟨A2,n2,c2,rfl,hr2,hb2⟩;obtain ⟨hc2,hf2,z2_0,z2_1,z2_2⟩:=bc3 w hb2 (by go_size);(try simp only [dw] at hc2 hf2))
 | (go_at_call 155;(with_reducible refine (jbC (hr1.below hb2) hr2 HL1.out HL2.out).mono ?_);rintro e3 w3 ⟨A3,n3,c3,rfl,hr3,hb3⟩;obtain ⟨hc3,hf3,z3_0,z3_1,z3_2⟩:=bc3 w hb3 (by go_size);(try simp only [dw] at hc3 hf3))
 | (go_at_call 126;(with_reducible refine (jaB hr3).mono ?_);rintro e4 w4 ⟨s4,A4,n4,c4,rfl,hr4,hb4⟩;obtain ⟨hc4,hf4,z4_0,z4_1,z4_2⟩:=bc3 w hb4 (by go_size);(try simp only [dw] at hc4 hf4)))
 exact bodyPost_ret (v:= .agg #[.int .i64 (s4), .slice (A4) (n4) (c4)]) (by simp [results,Tryz.results102,go_sem,hc4,z3_2,hc3,z2_2,hc2,z1_2,hc1]) rfl (jaj rfl ((hr4.put (x:=0) (B:=none) (m:=0) (d:=0) rfl (by simp [go_sem,hc4,z3_2,hc3,z2_2,hc2,z1_2,hc1]) (by simp [go_sem,hc4,z3_2,hc3,z2_2,hc2,z1_2,hc1])).to (ji8 (jbj HG.out HX.out) (jbj HG'.out HY.out))) (bq (by with_reducible repeat' first|assumption|constructor|go_size)))
theorem jm0 (ha:R64 a) (hb:R64 b) (hr:9223372036854775807 < a.natAbs*b.natAbs):
  Calls Tryz.prog 102 #[iv a none 0 0,iv b none 0 0] w (jaa (a*b) w):=by
 have qe:=jaq
 have h:Rep w a none 0 0 a:= .small _ ha.1 ha.2
 have h':Rep w b none 0 0 b:= .small _ hb.1 hb.2
 have hl:Lim a:=jca ha
 have hl':Lim b:=jca hb
 obtain ⟨x,hx⟩:∃x,(a).natAbs=x:=⟨_,rfl⟩
 obtain ⟨y,hy⟩:∃y,(b).natAbs=y:=⟨_,rfl⟩
 have hSx:=fun W n=>jcA a W ha.1 ha.2 n
 have hSy:=fun W n=>jcA b W hb.1 hb.2 n
 have hxB:x < B64:=by rw [ja8];omega
 have hyB:y < B64:=by rw [ja8];omega
 rw [hx] at hSx
 rw [hy] at hSy
 obtain ⟨hi,ehi⟩:∃hi,hi=x*y / B64:=⟨_,rfl⟩
 obtain ⟨lo,elo⟩:∃lo,lo=x*y % B64:=⟨_,rfl⟩
 have hM:=fun W n=>jei x y hi lo hxB hyB ehi elo W n
 have MX:=qh hSx
 have MY:=qh hSy
 have MM:=qh hM
 have HR1:=qh (show ∀W,Below w.heap.size w W→Rep W (a) (none) (0) (0) (a) from fun W hb=>h.below hb)
 have HR2:=qh (show ∀W,Below w.heap.size w W→Rep W (b) (none) (0) (0) (b) from fun W hb=>h'.below hb)
 have HL1:=qh hl.few
 have HL2:=qh hl'.few
 obtain ⟨x',hx'⟩:∃x,(a).natAbs=x:=⟨_,rfl⟩
 obtain ⟨y',hy'⟩:∃y,(b).natAbs=y:=⟨_,rfl⟩
 obtain ⟨g,hg⟩:∃g,decide (a < 0)=g:=⟨_,rfl⟩
 obtain ⟨g',hg'⟩:∃g,decide (b < 0)=g:=⟨_,rfl⟩
 rw [hx'] at HL1
 rw [hy'] at HL2
 have HX:=qh hx'
 have HY:=qh hy'
 have HG:=qh hg
 have HG':=qh hg'
 clear h h' hl hl' hx' hy' hg hg'
 rw [hx,hy] at hr
 by_cases hz:hi=0
 ·have b0:((hi:Int)==0)=true:=by simp [hz]
  have hll:9223372036854775807 < lo:=by
   have:x*y=B64*hi+lo:=by rw [ehi,elo];exact (Nat.div_add_mod _ _).symm
   rw [hz,Nat.mul_zero,Nat.zero_add] at this
   omega
  have b1:decide ((lo:Int)≤9223372036854775807)=false:=by simp;omega
  clear hz hll ha hb hr hx hy hSx hSy hxB hyB ehi elo hM
  go_enter Tryz.func102,Tryz.ntmps102
  go_wp2
  go_quiet ((first|(go_at_call 154;with_reducible exact MX.out _ _)|(go_at_call 154;with_reducible exact MY.out _ _)|(go_at_call 153;with_reducible exact MM.out _ _)))
  go_wp2_with (first
 | (go_at_call 124;(with_reducible refine (jak (HR1.out _ (bq (by with_reducible repeat' first|assumption|constructor|go_size))) HG.out HX.out).mono ?_);rintro e1 w1 ⟨A1,n1,c1,rfl,hr1,hb1⟩;obtain ⟨hc1,hf1,z1_0,z1_1,z1_2⟩:=bc3 w hb1 (by go_size);(try simp only [dw] at hc1 hf1))
 | (go_at_call 124;(with_reducible refine (jak (HR2.out _ (bq (by with_reducible repeat' first|assumption|constructor|go_size))) HG'.out HY.out).mono ?_);rintro e2 w2 ⟨A2,n2,c2,rfl,hr2,hb2⟩;obtain ⟨hc2,hf2,z2_0,z2_1,z2_2⟩:=bc3 w hb2 (by go_size);(try simp only [dw] at hc2 hf2))
 | (go_at_call 155;(with_reducible refine (jbC (hr1.below hb2) hr2 HL1.out HL2.out).mono ?_);rintro e3 w3 ⟨A3,n3,c3,rfl,hr3,hb3⟩;obtain ⟨hc3,hf3,z3_0,z3_1,z3_2⟩:=bc3 w hb3 (by go_size);(try simp only [dw] at hc3 hf3))
 | (go_at_call 126;(with_reducible refine (jaB hr3).mono ?_);rintro e4 w4 ⟨s4,A4,n4,c4,rfl,hr4,hb4⟩;obtain ⟨hc4,hf4,z4_0,z4_1,z4_2⟩:=bc3 w hb4 (by go_size);(try simp only [dw] at hc4 hf4)))
  go_wp2
  exact bodyPost_ret (v:= .agg #[.int .i64 (s4), .slice (A4) (n4) (c4)]) (by simp [results,Tryz.results102,go_sem,hc4,z3_2,hc3,z2_2,hc2,z1_2,hc1]) rfl (jaj rfl ((hr4.put (x:=0) (B:=none) (m:=0) (d:=0) rfl (by simp [go_sem,hc4,z3_2,hc3,z2_2,hc2,z1_2,hc1]) (by simp [go_sem,hc4,z3_2,hc3,z2_2,hc2,z1_2,hc1])).to (ji8 (jbj HG.out HX.out) (jbj HG'.out HY.out))) (bq (by with_reducible repeat' first|assumption|constructor|go_size)))
 ·have b0:((hi:Int)==0)=false:=by rw [beq_eq_false_iff_ne];omega
  clear hz ha hb hr hx hy hSx hSy hxB hyB ehi elo hM
  go_enter Tryz.func102,Tryz.ntmps102
  go_wp2
  go_quiet ((first|(go_at_call 154;with_reducible exact MX.out _ _)|(go_at_call 154;with_reducible exact MY.out _ _)|(go_at_call 153;with_reducible exact MM.out _ _)))
  go_wp2_with (first
 | (go_at_call 124;(with_reducible refine (jak (HR1.out _ (bq (by with_reducible repeat' first|assumption|constructor|go_size))) HG.out HX.out).mono ?_);rintro e1 w1 ⟨A1,n1,c1,rfl,hr1,hb1⟩;obtain ⟨hc1,hf1,z1_0,z1_1,z1_2⟩:=bc3 w hb1 (by go_size);(try simp only [dw] at hc1 hf1))
 | (go_at_call 124;(with_reducible refine (jak (HR2.out _ (bq (by with_reducible repeat' first|assumption|constructor|go_size))) HG'.out HY.out).mono ?_);rintro e2 w2 ⟨A2,n2,c2,rfl,hr2,hb2⟩;obtain ⟨hc2,hf2,z2_0,z2_1,z2_2⟩:=bc3 w hb2 (by go_size);(try simp only [dw] at hc2 hf2))
 | (go_at_call 155;(with_reducible refine (jbC (hr1.below hb2) hr2 HL1.out HL2.out).mono ?_);rintro e3 w3 ⟨A3,n3,c3,rfl,hr3,hb3⟩;obtain ⟨hc3,hf3,z3_0,z3_1,z3_2⟩:=bc3 w hb3 (by go_size);(try simp only [dw] at hc3 hf3))
 | (go_at_call 126;(with_reducible refine (jaB hr3).mono ?_);rintro e4 w4 ⟨s4,A4,n4,c4,rfl,hr4,hb4⟩;obtain ⟨hc4,hf4,z4_0,z4_1,z4_2⟩:=bc3 w hb4 (by go_size);(try simp only [dw] at hc4 hf4)))
  go_wp2
  exact bodyPost_ret (v:= .agg #[.int .i64 (s4), .slice (A4) (n4) (c4)]) (by simp [results,Tryz.results102,go_sem,hc4,z3_2,hc3,z2_2,hc2,z1_2,hc1]) rfl (jaj rfl ((hr4.put (x:=0) (B:=none) (m:=0) (d:=0) rfl (by simp [go_sem,hc4,z3_2,hc3,z2_2,hc2,z1_2,hc1]) (by simp [go_sem,hc4,z3_2,hc3,z2_2,hc2,z1_2,hc1])).to (ji8 (jbj HG.out HX.out) (jbj HG'.out HY.out))) (bq (by with_reducible repeat' first|assumption|constructor|go_size)))

theorem jbx (h:Rep w s A n c a) (h':Rep w t B m d b) (hl:Lim a) (hl':Lim b):Calls Tryz.prog 102 #[iv s A n c,iv t B m d] w (jaa (a*b) w):=by
 rcases A with _|p
 ·rcases B with _|q
  ·obtain ⟨rfl,rfl,rfl,ha⟩:=h.none_
   obtain ⟨rfl,rfl,rfl,hb⟩:=h'.none_
   rcases Nat.lt_or_ge 9223372036854775807 (s.natAbs*t.natAbs) with hr|hr
   ·exact jm0 ha hb hr
   ·exact jmh _ _ w ha hb hr
  ·exact jkT h h' hl hl'
 ·exact jlR h h' hl hl'
end
end Go.Proofs.YthciialjockjmaaGreatDoor
