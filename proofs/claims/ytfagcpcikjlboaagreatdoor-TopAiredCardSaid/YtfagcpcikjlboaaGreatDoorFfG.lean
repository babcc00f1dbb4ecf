/- Parts. -/
import Derived.Test.YtfagcpcikjlboaaGreatDoorFdG
import Derived.Test.YtfagcpcikjlboaaGreatDoorShelg
import Derived.Test.YtfagcpcikjlboaaGreatDoorStabG
import Derived.Lib.SmallJoins
import Derived.Lib.AppendIntMem
import Derived.Lib.AtoiErrMem
import Derived.Shelf.Strings.SlTrimAscii
set_option linter.all false
set_option maxRecDepth 100000
set_option maxHeartbeats 8000000
namespace Go.Proofs.YtfagcpcikjlboaaGreatDoor
open Go Go.RowKit Go.Proofs.Tryz

theorem jo7 {w:World} {s t u v:Int} {A B C D:Option Addr} {n c m d i k j l:Nat} {x y z:Rat} (p q:Nat) (hz:x+y=z) (h:RepF w s A n c t B m d x) (h':RepF w u C i k v D j l y) (hs:Sz p x) (hs':Sz q y) (hpq:p+q+1 < 100000):
  Calls prog 114 #[fv s A n c t B m d,fv u C i k v D j l] w (jaa z w):=hz ▸ jpJ h h' hs hs' hpq
theorem jbO {w:World} {s t u v:Int} {A B C D:Option Addr} {n c m d i k j l:Nat} {x y z:Rat} (p q:Nat) (hz:x*y=z) (h:RepF w s A n c t B m d x) (h':RepF w u C i k v D j l y) (hs:Sz p x) (hs':Sz q y) (hpq:p+q < 100000):
  Calls prog 33 #[fv s A n c t B m d,fv u C i k v D j l] w (jaa z w):=hz ▸ joZ h h' hs hs' hpq
theorem jhs {w:World} {s t:Int} {A B:Option Addr} {n c m d:Nat} {x z:Rat} (hz: -x=z) (h:RepF w s A n c t B m d x):Calls prog 137 #[fv s A n c t B m d] w (jaa z w):=hz ▸ jok h
theorem jmO {w:World} {s t:Int} {A B:Option Addr} {n c m d:Nat} {x z:Rat} (p:Nat) (hz:x⁻¹=z) (h:RepF w s A n c t B m d x) (hs:Sz p x) (hp:p < 100000) (hx:x≠0):Calls prog 136 #[fv s A n c t B m d] w (jaa z w):=hz ▸ joL h hs hp hx
theorem jd7 {w:World} {s t u v:Int} {A B C D:Option Addr} {n c m d i k j l:Nat} {x y:Rat} {z:Int} (p q:Nat) (hz:Rq.cmpQ x y=z) (h:RepF w s A n c t B m d x) (h':RepF w u C i k v D j l y) (hs:Sz p x) (hs':Sz q y) (hpq:p+q < 100000):
  Calls prog 76 #[fv s A n c t B m d,fv u C i k v D j l] w fun e w'=>e= .returned (.int .i64 z)∧Below w.heap.size w w':=hz ▸ jpW h h' hs hs' hpq
theorem jhi {s t a b q r:Int} {A B:Option Addr} {n c m d:Nat} {w:World} (hq:a / b=q) (hr:a % b=r) (h:Rep w s A n c a) (h':Rep w t B m d b) (hl:Lim a) (hl':Lim b) (hp:0 < b):
  Calls prog 164 #[iv s A n c,iv t B m d] w (jcU q r w):=hr ▸ jeW hq h h' hl hl' hp
section
variable {s t u v:Int} {A B C D:Option Addr} {n c m d i k j l:Nat} {w:World} {x y:Rat} {p q:Nat}
theorem jow (h:RepF w s A n c t B m d x) (h':RepF w u C i k v D j l y) (hs:Sz p x) (hs':Sz q y) (hpq:p+q+1 < 100000):
  Calls prog 98 #[fv s A n c t B m d,fv u C i k v D j l] w (jaa (x - y) w):=by
 have HA:=qh h;have HB:=qh h';have HS:=qh (ai hs hs'.neg);have HE:=qh (Rq.sub_eq x y).symm;have HPQ:=qh hpq;obtain ⟨z,hz⟩:∃z,x - y=z:=⟨_,rfl⟩;obtain ⟨y',hy⟩:∃z, -y=z:=⟨_,rfl⟩;have HY:=qh hy;rw [hz] at HE ⊢;rw [hy] at HE HS;clear h h' hs hs' hpq hz hy;go_enter func98,ntmps98;go_wp2;refine ja1 (fun w'=>Below (((w.alloc (.cells #[.int .i64 s, .slice A n c, .int .i64 t, .slice B m d] 70)).alloc (.cells #[.int .i64 u, .slice C i k, .int .i64 v, .slice D j l] 70)).alloc (.cells #[.int .i64 0, .slice none 0 0, .int .i64 0, .slice none 0 0] 70)).heap.size (((w.alloc (.cells #[.int .i64 s, .slice A n c, .int .i64 t, .slice B m d] 70)).alloc (.cells #[.int .i64 u, .slice C i k, .int .i64 v, .slice D j l] 70)).alloc (.cells #[.int .i64 0, .slice none 0 0, .int .i64 0, .slice none 0 0] 70)) w') [4] (by kernel_rfl) ?_;refine tl [(0,[3], .agg #[.int .i64 s, .slice A n c, .int .i64 t, .slice B m d]),(1,[2], .agg #[.int .i64 u, .slice C i k, .int .i64 v, .slice D j l])] [_,_] rfl (by kernel_rfl) pk5 (by intros;simp only [tyq,ppq];go_simp) bq0 ?_;simp only [tlq,ppq];refine rd1 2 (by kernel_rfl) rfl (fun K hK=> ?_);go_simp;go_wp2_with (go_at_call 137;(with_reducible refine mf3 w (jhs HY.o (HB.o.below bi)) (by go_size) fun w1 s1 A1 n1 c1 t1 B1 m1 d1 hr1 hq1 hb1 hc1 hf1 z1_0 z1_1 z1_2 _=> ?_))
 have sS1:=qh (bst bq0 hb1);refine hK.out _ _ (fun _=>sS1.o) ?_;clear hK K;refine rd1 3 (by kernel_rfl) rfl (fun K hK=> ?_);go_simp;go_wp2_with (go_at_call 114;(with_reducible refine mf3 w (jo7 p q HE.o (HA.o.below bi) ⟨hr1,hq1⟩ HS.o.1 HS.o.2 HPQ.o) (by go_size) fun w2 s2 A2 n2 c2 t2 B2 m2 d2 hr2 hq2 hb2 hc2 hf2 z2_0 z2_1 z2_2 _=> ?_))
 have sS2:=qh (bst sS1.o hb2);refine hK.out _ _ (fun _=>sS2.o) ?_;clear hK K;refine rd1 4 (by kernel_rfl) rfl (fun K hK=> ?_);go_simp;refine hK.out _ _ (fun h=>(h (by decide)).elim) ?_;clear hK K;refine ja2 (by kernel_rfl) ?_ _;go_wp2;exact bodyPost_ret (v:= .agg #[.int .i64 (s2), .slice (A2) (n2) (c2), .int .i64 (t2), .slice (B2) (m2) (d2)]) (by simp [results,results98,go_sem,hc2,z1_2,hc1,z2_2]) rfl (jan rfl (by constructor <;> (with_reducible repeat first|assumption|apply rZ|refine rP ?_ rfl (by simp [go_sem,hc2,z1_2,hc1,z2_2]))) bi)

theorem jqo (h:RepF w s A n c t B m d x) (h':RepF w u C i k v D j l y) (hs:Sz p x) (hs':Sz q y) (hpq:p+q < 100000) (hy0:y≠0):
  Calls prog 95 #[fv s A n c t B m d,fv u C i k v D j l] w (jaa (x / y) w):=by
 have HA:=qh h;have HB:=qh h';have HS:=qh (ai hs (hs'.inv hy0));have HS':=qh hs';have HE:=qh (Rq.div_eq x y).symm;have HPQ:=qh hpq;have HQ:=qh (show q < 100000 by omega);have HN:=qh hy0;obtain ⟨z,hz⟩:∃z,x / y=z:=⟨_,rfl⟩;obtain ⟨y',hy⟩:∃z,y⁻¹=z:=⟨_,rfl⟩;have HY:=qh hy;rw [hz] at HE ⊢;rw [hy] at HE HS;clear h h' hs hs' hpq hz hy hy0;go_enter func95,ntmps95;go_wp2;refine ja1 (fun w'=>Below (((w.alloc (.cells #[.int .i64 s, .slice A n c, .int .i64 t, .slice B m d] 70)).alloc (.cells #[.int .i64 u, .slice C i k, .int .i64 v, .slice D j l] 70)).alloc (.cells #[.int .i64 0, .slice none 0 0, .int .i64 0, .slice none 0 0] 70)).heap.size (((w.alloc (.cells #[.int .i64 s, .slice A n c, .int .i64 t, .slice B m d] 70)).alloc (.cells #[.int .i64 u, .slice C i k, .int .i64 v, .slice D j l] 70)).alloc (.cells #[.int .i64 0, .slice none 0 0, .int .i64 0, .slice none 0 0] 70)) w') [4] (by kernel_rfl) ?_;refine tl [(0,[3], .agg #[.int .i64 s, .slice A n c, .int .i64 t, .slice B m d]),(1,[2], .agg #[.int .i64 u, .slice C i k, .int .i64 v, .slice D j l])] [_,_] rfl (by kernel_rfl) pk5 (by intros;simp only [tyq,ppq];go_simp) bq0 ?_;simp only [tlq,ppq];refine rd1 2 (by kernel_rfl) rfl (fun K hK=> ?_);go_simp;go_wp2_with (go_at_call 136;(with_reducible refine mf3 w (jmO q HY.o (HB.o.below bi) HS'.o HQ.o HN.o) (by go_size) fun w1 s1 A1 n1 c1 t1 B1 m1 d1 hr1 hq1 hb1 hc1 hf1 z1_0 z1_1 z1_2 _=> ?_))
 have sS1:=qh (bst bq0 hb1);refine hK.out _ _ (fun _=>sS1.o) ?_;clear hK K;refine rd1 3 (by kernel_rfl) rfl (fun K hK=> ?_);go_simp;go_wp2_with (go_at_call 33;(with_reducible refine mf3 w (jbO p q HE.o (HA.o.below bi) ⟨hr1,hq1⟩ HS.o.1 HS.o.2 HPQ.o) (by go_size) fun w2 s2 A2 n2 c2 t2 B2 m2 d2 hr2 hq2 hb2 hc2 hf2 z2_0 z2_1 z2_2 _=> ?_))
 have sS2:=qh (bst sS1.o hb2);refine hK.out _ _ (fun _=>sS2.o) ?_;clear hK K;refine rd1 4 (by kernel_rfl) rfl (fun K hK=> ?_);go_simp;refine hK.out _ _ (fun h=>(h (by decide)).elim) ?_;clear hK K;refine ja2 (by kernel_rfl) ?_ _;go_wp2;exact bodyPost_ret (v:= .agg #[.int .i64 (s2), .slice (A2) (n2) (c2), .int .i64 (t2), .slice (B2) (m2) (d2)]) (by simp [results,results95,go_sem,hc2,z1_2,hc1,z2_2]) rfl (jan rfl (by constructor <;> (with_reducible repeat first|assumption|apply rZ|refine rP ?_ rfl (by simp [go_sem,hc2,z1_2,hc1,z2_2]))) bi)

theorem jBo (h:RepF w s A n c t B m d x) (h':RepF w u C i k v D j l y) (hs:Sz p x) (hs':Sz q y) (hpq:p+q < 100000):
  Calls prog 186 #[fv s A n c t B m d,fv u C i k v D j l] w fun e w'=>e= .returned (.bool (decide (x=y)))∧Below w.heap.size w w':=by
 have e:(Rq.cmpQ x y==0)=decide (x=y):=by
  rw [Bool.eq_iff_iff,beq_iff_eq,Rq.cmp_zero,decide_eq_true_iff]
 rw [←e];have HA:=qh h;have HB:=qh h';have HS:=qh (ai hs hs');have HPQ:=qh hpq;clear h h' hs hs' hpq e;go_enter func186,ntmps186;go_wp2_with (go_at_call 76;(with_reducible refine mo2 w (jd7 p q rfl (HA.o.below bi) (HB.o.below bi) HS.o.1 HS.o.2 HPQ.o) (by go_size) fun w1 hb1 hc1 hf1 z1_0 z1_1 _=> ?_))
 go_ret;exact ⟨rfl,bi⟩

theorem jkW (h:RepF w s A n c t B m d x) (hs:Sz p x) (hp:p < 100000):Calls prog 138 #[fv s A n c t B m d] w (ja7 x.floor w):=by
 have HA:=qh h;have L1:=qh (hs.limN hp);have L2:=qh (hs.limD hp);have HP:=qh (show (0:Int) < ((x.den:Nat):Int) by have:=x.den_pos;omega);have HE:=qh (Rat.floor_def x).symm;obtain ⟨z,hz⟩:∃z,x.floor=z:=⟨_,rfl⟩;rw [hz] at HE ⊢;clear h hs hp hz;go_enter func138,ntmps138;go_wp2_with (go_at_call 164;(with_reducible refine (jhi HE.o rfl (HA.o.num.below bi) (HA.o.den.below bi) L1.o L2.o HP.o).mono ?_);rintro e1 w1 ⟨s1,A1,n1,c1,t1,B1,m1,d1,rfl,hr1,hq1,hb1⟩;obtain ⟨hc1,hf1,z1_0,z1_1,_⟩:=bc2 w hb1 (by go_size))
 exact bodyPost_ret (v:= .agg #[.int .i64 (s1), .slice (A1) (n1) (c1)]) (by simp [results,results138,go_sem,hc1,z1_0,z1_1,nl z1_0,nl z1_1]) rfl (jaf rfl ((by with_reducible repeat first|assumption|apply rZ|refine rP ?_ rfl (by simp [go_sem,hc1,z1_0,z1_1,nl z1_0,nl z1_1]))) bi)
end

abbrev bs (l:List UInt8):Value:= .string ⟨l.toArray⟩
structure Env (w:World):Prop where
 tab : Lib.TabBelow prog w.heap.size w "internal/strconv.uint64pow10" .u64 Lib.pow10Tab
 max:∃m:Int,w.cell? ⟨0,0,none⟩=some (.int .i64 m)
 pos:0 < w.heap.size
theorem Env.below {w w':World} (h:Env w) (hb:Below w.heap.size w w'):Env w':=
 ⟨fun w2 h2=>h.tab w2 (hb.trans (h2.mono hb.size)),by
   obtain ⟨m,hm⟩:=h.max
   exact ⟨m,by rw [hb.cell (p:=⟨0,0,none⟩) h.pos];exact hm⟩,Nat.lt_of_lt_of_le h.pos hb.size⟩

section
variable {w:World} {l p:List UInt8}
theorem jgJ:Calls prog 140 #[bs l,bs p] w fun e w'=>e= .returned (.bool (Lib.hasPrefix l p))∧Below w.heap.size w w':=
 (Tryz.strings_HasPrefix ⟨l.toArray⟩ ⟨p.toArray⟩ w).mono fun e w' ⟨he,hw⟩=>⟨by simpa using he,hw ▸ Below.refl _ _⟩
theorem jfE:Calls prog 121 #[bs l,bs p] w fun e w'=>e= .returned (bs (Lib.trimPrefix l p))∧Below w.heap.size w w':=
 (Tryz.strings_TrimPrefix ⟨l.toArray⟩ ⟨p.toArray⟩ w).mono fun e w' ⟨he,hw⟩=>⟨by simpa using he,hw ▸ Below.refl _ _⟩
theorem jfy {g:Bool} (hg:Lib.hasPrefix l p=g):Calls prog 140 #[bs l,bs p] w fun e w'=>e= .returned (.bool g)∧Below w.heap.size w w':=hg ▸ jgJ
theorem jad {m:List UInt8} (hm:Lib.trimPrefix l p=m):Calls prog 121 #[bs l,bs p] w fun e w'=>e= .returned (bs m)∧Below w.heap.size w w':=hm ▸ jfE
theorem jst (hE:Env w) (hl:l.length < 4294967281):Calls prog 99 #[bs l,bs p] w fun e w'=>e= .returned (.tuple #[bs (Lib.cut l p).1,bs (Lib.cut l p).2.1, .bool (Lib.cut l p).2.2])∧Below w.heap.size w w':=by
 obtain ⟨m,hm⟩:=hE.max;exact (Tryz.strings_Cut ⟨l.toArray⟩ ⟨p.toArray⟩ m w (by simpa [ByteArray.size] using hl) hm).mono fun e w' ⟨he,n,hw⟩=>⟨by simpa using he,hw ▸ jav (Below.refl _ _) n⟩
theorem jpD {n:Int} (hl:l.length≤18) (h:Lib.atoi l=some n):Calls prog 141 #[bs l] w fun e w'=>e= .returned (.tuple #[.int .i64 n, .nilIface])∧Below w.heap.size w w':=
 (Tryz.strconv_Atoi ⟨l.toArray⟩ n (by simpa [ByteArray.size] using hl) (by simpa using h) w).mono fun e w' ⟨he,t,hw⟩=>⟨he,hw ▸ Lib.bytesWorld_below w _ t⟩
theorem jqk {z:Int} (hE:Env w) (h:R64 z):Calls prog 145 #[.int .i64 z] w fun e w'=>e= .returned (bs (Lib.itoa z))∧Below w.heap.size w w':=
 (Tryz.strconv_Itoa z h.1 (by have:=h.2;omega) w hE.tab.here).mono fun e w' ⟨he,k,os,hw⟩=>⟨he,hw ▸ Lib.below_grow _ w (Nat.le_refl _) k os⟩
end

def jcG (l:List UInt8):Prop:=∀c∈l,Dig.isDig c=true
theorem jcG.take {l:List UInt8} (h:jcG l) (k:Nat):jcG (l.take k):=fun c hc=>h c (List.mem_of_mem_take hc)
theorem jcG.drop {l:List UInt8} (h:jcG l) (k:Nat):jcG (l.drop k):=fun c hc=>h c (List.mem_of_mem_drop hc)
theorem jec {l:List UInt8} (h:jcG l):Lib.hasPrefix l [45]=false:=by
 cases l with
 | nil=>rfl
 | cons c r=>
   have:=h c (List.mem_cons_self ..);have h1:c≠45:=by intro e;subst e;revert this;decide
   simp [Lib.hasPrefix,List.isPrefixOf];exact fun e=>h1 e.symm
theorem jmk {l:List UInt8} (h:jcG l) (hn:l≠[]):Lib.atoi l=some ((Dig.val l:Nat):Int):=by
 cases l with
 | nil=>exact absurd rfl hn
 | cons c r=>
   have hc:=h c (List.mem_cons_self ..)
   have h1:(c==45)=false:=by
    rw [beq_eq_false_iff_ne];intro e;subst e;revert hc;decide
   have h2:(c==43)=false:=by
    rw [beq_eq_false_iff_ne];intro e;subst e;revert hc;decide
   simp only [Lib.atoi,h1,h2];have:Lib.decNat (c::r)=some (Dig.val (c::r)):=Dig.decFrom_val (c::r) 0 h;simp [this]
theorem jdT (r:List UInt8) (k:Nat):(⟨r.toArray⟩:ByteArray).extract 0 k=⟨(r.take k).toArray⟩:=by
 apply ByteArray.ext;simp [ByteArray.data_extract]
theorem jqP (w:World):Calls prog 118 #[.int .i64 10] w (ja7 ((10:Nat):Int) w):=jg7 10 w (by constructor <;> decide)
theorem jsf {s t:Int} {x y z:Nat} {A B:Option Addr} {n c m d:Nat} {w:World} (hz:x+y=z) (h:Rep w s A n c (x:Nat)) (h':Rep w t B m d (y:Nat)) (hl:Lim (x:Nat)) (hl':Lim (y:Nat)):
  Calls prog 143 #[iv s A n c,iv t B m d] w (ja7 (z:Nat) w):=by
 subst hz;rw [Int.natCast_add];exact jdD h h' hl hl'
theorem jdz {x n:Nat} (h:x≤10^n) (hn:n < 100000):Lim ((x:Nat):Int):=
 jaU (m:=n) (by simp only [Int.natAbs_natCast];exact Nat.le_trans h (Nat.pow_le_pow_left (by rw [ja3];omega) n)) hn
theorem jat (r:List UInt8) (k:Nat):(⟨r.toArray⟩:ByteArray).extract k r.length=⟨(r.drop k).toArray⟩:=by
 apply ByteArray.ext;simp [ByteArray.data_extract,List.take_of_length_le]

def txt:Value→List UInt8
 | .string b=>b.data.toList
 | _=> []
@[simp] theorem jvC (l : List UInt8) : txt (bs l) = l := by simp [txt]
theorem jd2 {l:List UInt8} (h:jcG l):Lib.trimPrefix l [45]=l:=by simp [Lib.trimPrefix,jec h]
structure RI (w wr:World) (b4:Nat) (x:Nat) (s:Int) (A:Option Addr) (n c:Nat):Prop where
 rep:Rep wr s A n c (x:Nat)
 c0:wr.cell? ⟨b4,0,none⟩=some (.int .i64 s)
 c1:wr.cell? ⟨b4,1,none⟩=some (.slice A n c)
 c2:wr.cell? ⟨w.heap.size,0,none⟩=some (.int .i64 0)
 c3:wr.cell? ⟨w.heap.size,1,none⟩=some (.slice none 0 0)
 f0:∀o,wr.frozen? ⟨b4,o,none⟩=false
 f1:∀o,wr.frozen? ⟨w.heap.size,o,none⟩=false
 bel:Below w.heap.size w wr
 sz:w.heap.size < b4∧b4 < wr.heap.size

section
variable {w:World} {l:List UInt8} {g:Bool}
theorem jfa {L:List UInt8} (hg:Lib.hasPrefix L [45]=g) (ht:Lib.trimPrefix L [45]=l) (h:jcG l) (hl:l.length≤5000):Calls prog 101 #[bs L] w (ja7 (sg g (Dig.val l)) w):=by
 have HP:=qh hg;have HT:=qh ht;have HD:=qh h;have HL:=qh hl;obtain ⟨N,hN⟩:∃N,Dig.val l=N:=⟨_,rfl⟩;rw [hN];have HN:=qh hN;clear hg ht h hl hN;go_enter func101,ntmps101
 go_wp2_with (first
  | (go_at_call 140;(with_reducible refine mo1 w (jfy HP.o) (by go_size) fun w1 hb1 hc1 hf1 z1_0 _=> ?_))
  | (go_at_call 121;(with_reducible refine mo1 w (jad HT.o) (by go_size) fun w2 hb2 hc2 hf2 z2_0 _=> ?_)))
 go_loopw [0] (fun v wr=>∃(pre r:List UInt8) (s:Int) (A:Option Addr) (n c:Nat),v=bs r∧l=pre++r∧RI w wr w2.heap.size (Dig.val pre) s A n c) (fun v _=>(txt v).length)
 case atStart=>
  refine ⟨[],l,0,none,0,0,rfl,rfl, ?_⟩;exact { rep:= .small _ (by decide) (by decide),c0:=by simp [go_sem],c1:=by simp [go_sem],c2:=by simp [go_sem,hc2,z1_0,hc1,z2_0,nl z2_0],c3:=by simp [go_sem,hc2,z1_0,hc1,z2_0,nl z2_0],f0:=by intro o;simp [go_sem],f1:=by intro o;simp [go_sem,hf2,z1_0,hf1,z2_0,nl z2_0],bel:=bi,sz:=⟨z2_0,by simp⟩ }
 case round=>
  obtain ⟨b4,hb4⟩:∃b,w2.heap.size=b:=⟨_,rfl⟩;rw [hb4] at hrel ⊢;clear hb1 hc1 hf1 hb2 hc2 hf2;rw [hb4] at z2_0;clear hb4;obtain ⟨pre,r,so,Ao,no,co,rfl,hpr,hI⟩:=hrel;have f0:=hI.c0;have f1:=hI.c1;have f2:=hI.c2;have f3:=hI.c3;have g0:=hI.f0;have g1:=hI.f1;have hbr:=hI.bel;have hzr:=hI.sz.2;have hzr0:w.heap.size < wr.heap.size:=by omega
  have hn0:w.heap.size≠b4:=by omega
  have e1:=hI.rep;have HI:=qh hI;have HPR:=qh hpr;clear hI hpr;by_cases hr:r=[]
  ·subst hr;have e2:Rep wr so Ao no co (N:Nat):=e1.to (by rw [←HN.o,HPR.o,List.append_nil]);clear e1;cases g
   ·have e2:Rep wr so Ao no co (sg false N):=e2;go_wp2;exact bodyPost_ret (v:= .agg #[.int .i64 (so), .slice (Ao) (no) (co)]) (by simp [results,results101,go_sem,f2,f3,g1]) rfl (jaf rfl ((by with_reducible repeat first|assumption|apply rZ|refine rP ?_ rfl (by simp [go_sem,f2,f3]))) (bq (by with_reducible repeat' first|assumption|constructor|go_size)))
   ·go_wp2_with (go_at_call 125;(with_reducible refine mi1 w (neg_num e2) (by go_size) fun w5 s5 A5 n5 c5 hr5 hb5 hc5 hf5 z5_0 _=> ?_))
    have e6:Rep w5 s5 A5 n5 c5 (sg true N):=hr5;exact bodyPost_ret (v:= .agg #[.int .i64 (s5), .slice (A5) (n5) (c5)]) (by simp [results,results101,go_sem,hc5,hzr0,f2,f3]) rfl (jaf rfl ((by with_reducible repeat first|assumption|apply rZ|refine rP ?_ rfl (by simp [go_sem,hc5,hzr0,f2,f3]))) (bq (by with_reducible repeat' first|assumption|constructor|go_size)))
  ·obtain ⟨k,hk⟩:∃k,min 18 r.length=k:=⟨_,rfl⟩;have hk1:min (18:Int) (r.length:Int)=(k:Int):=by omega
   have hl0:0 < r.length:=List.length_pos_iff.2 hr;have q0:decide (0 < r.length)=true:=by simp;exact hl0
   have q2:=jdT r k;have q3:=jat r k;have hkr:k≤r.length:=by omega
   have hA:=jmk (l:=r.take k) (fun c hc=>HD.o c (by rw [HPR.o];exact List.mem_append_right _ (List.mem_of_mem_take hc))) (by intro e;have h:=congrArg List.length e;rw [List.length_take,List.length_nil] at h;omega);obtain ⟨v,hv⟩:∃v,Dig.val (r.take k)=v:=⟨_,rfl⟩;rw [hv] at hA;have HA:=qh hA;have HV:=qh hv;have HK:=qh hk;have HLK:=qh (show (r.take k).length≤18 by simp;omega);clear hA hv hk;go_wp2_with (go_at_call 141;(with_reducible refine mo1 w (jpD HLK.o HA.o) (by go_size) fun w5 hb5 hc5 hf5 z5_0 _=> ?_))
   have hx5:b4 < w5.heap.size:=(by have:=hb5.size;(try simp at this);omega);have f0:w5.cell? ⟨b4,0,none⟩=some (.int .i64 so):=by simp [go_sem,hc5,hzr,f0]
   have f1:w5.cell? ⟨b4,1,none⟩=some (.slice Ao no co):=by simp [go_sem,hc5,hzr,f1]
   have f2:w5.cell? ⟨w.heap.size,0,none⟩=some (.int .i64 0):=by simp [go_sem,hc5,hzr0,f2]
   have f3:w5.cell? ⟨w.heap.size,1,none⟩=some (.slice none 0 0):=by simp [go_sem,hc5,hzr0,f3]
   have g0:∀o,w5.frozen? ⟨b4,o,none⟩=false:=by intro o;simp [go_sem,hf5,hzr,g0]
   have g1:∀o,w5.frozen? ⟨w.heap.size,o,none⟩=false:=by intro o;simp [go_sem,hf5,hzr0,g1]
   have e1:Rep w5 so Ao no co ((Dig.val pre:Nat):Int):=e1.below hb5;have hb5:Below w.heap.size w w5:=ja0 hbr hb5;clear hc5 hf5 hbr;obtain ⟨p10,hp10⟩:∃x,10^k=x:=⟨_,rfl⟩;obtain ⟨y,hy⟩:∃x,Dig.val pre*p10=x:=⟨_,rfl⟩;obtain ⟨z,hz⟩:∃x,y+v=x:=⟨_,rfl⟩;have hlen:pre.length+r.length≤5000:=by have:=HL.o;rw [HPR.o,List.length_append] at this;exact this
   have hdp:Dig.val pre < 10^pre.length:=Dig.val_lt pre (fun c hc=>HD.o c (by rw [HPR.o];exact List.mem_append_left _ hc))
   have hdv:v < 10^k:=by
    rw [←HV.o];have:=Dig.val_lt (r.take k) (fun c hc=>HD.o c (by rw [HPR.o];exact List.mem_append_right _ (List.mem_of_mem_take hc)));rwa [List.length_take,Nat.min_eq_left hkr] at this
   have hyl:y≤10^(pre.length+k):=by rw [←hy,←hp10,Nat.pow_add];exact Nat.mul_le_mul_right _ (Nat.le_of_lt hdp)
   have hk18:k≤18:=by have:=HK.o;omega
   have hv18:v < 1000000000000000000:=Nat.lt_of_lt_of_le hdv (by have:=Nat.pow_le_pow_right (show 0 < 10 by omega) hk18;simpa using this);have hval:Dig.val (pre++r.take k)=z:=by rw [Dig.val_append,List.length_take,Nat.min_eq_left hkr,HV.o,hp10,hy,hz]
   have HPW:Hd (Lim ((10^k:Nat):Int)):=qh (jdz (Nat.le_refl _) (by omega));have HL1:Hd (Lim ((Dig.val pre:Nat):Int)):=qh (jdz (Nat.le_of_lt hdp) (by omega));have HL2:Hd (Lim ((y:Nat):Int)):=qh (jdz hyl (by omega));have HL3:Hd (Lim ((v:Nat):Int)):=qh (jdz (Nat.le_of_lt hdv) (by omega));have HY:=qh hy;have HZ:=qh hz;have HVAL:=qh hval;have HP10:=qh hp10;have HRV:Hd (R64 (v:Int)):=qh ⟨by omega,by omega⟩;have HKK:=qh (show k < 9223372036854775808 by omega);have HK0:=qh (show 0 < k by have:=HK.o;omega);clear hy hz hlen hdp hdv hyl hk18 hv18 hval hp10 hk1 q0 q2 q3 hkr hl0 hr;have h10:∀W,Calls prog 118 #[.int .i64 10] W (ja7 ((10:Nat):Int) W):=jqP
   have hpow:∀(W:World) (s:Int) (A:Option Addr) (n c:Nat),Rep W s A n c ((10:Nat):Int)→Calls prog 142 #[iv s A n c, .int .i64 (k:Int)] W (ja7 ((p10:Nat):Int) W):=fun W s A n c h=>by
    have:=jrd 10 k h (by omega) HKK.o HPW.o;rwa [HP10.o] at this
   have HPL:Hd (Lim ((p10:Nat):Int)):=by have:=HPW.o;rw [HP10.o] at this;exact qh this
   have HPOW:=qh hpow;clear hpow h10 HPW;refine ja1 (fun w'=>Below w5.heap.size w5 w') [8] (by kernel_rfl) ?_;refine tl [(0,[4], .agg #[.int .i64 so, .slice Ao no co]),(2,[3], .int .i64 (k:Int)),(5,[6], .int .i64 (v:Int))] [_,_,_] rfl (by kernel_rfl) pk5 (by intros;simp only [tyq,ppq];go_simp) bq0 ?_;simp only [tlq,ppq];refine rd1 1 (by kernel_rfl) rfl (fun K hK=> ?_);go_simp;go_wp2_with ((go_at_call 118;(with_reducible refine mi1 w (jqP _) (by go_size) fun w6 s6 A6 n6 c6 hr6 hb6 hc6 hf6 z6_0 _=> ?_));have hx6:b4 < w6.heap.size:=(by have:=hb6.size;(try simp at this);omega))
   have sS6:=qh (bst bq0 hb6);refine hK.out _ _ (fun _=>sS6.o) ?_;clear hK K;refine rd1 3 (by kernel_rfl) rfl (fun K hK=> ?_);go_simp;go_wp2_with ((go_at_call 142;(with_reducible refine mi1 w (HPOW.o _ _ _ _ _ hr6) (by go_size) fun w7 s7 A7 n7 c7 hr7 hb7 hc7 hf7 z7_0 _=> ?_));have hx7:b4 < w7.heap.size:=(by have:=hb7.size;(try simp at this);omega))
   have sS7:=qh (bst sS6.o hb7);refine hK.out _ _ (fun _=>sS7.o) ?_;clear hK K;refine rd1 4 (by kernel_rfl) rfl (fun K hK=> ?_);go_simp;go_wp2_with ((go_at_call 78;(with_reducible refine mi1 w (jeY HY.o (by with_reducible repeat first|assumption|apply rZ|refine rP ?_ rfl (by simp [go_sem,hc6])) hr7 HL1.o HPL.o) (by go_size) fun w8 s8 A8 n8 c8 hr8 hb8 hc8 hf8 z8_0 _=> ?_));have hx8:b4 < w8.heap.size:=(by have:=hb8.size;(try simp at this);omega))
   have sS8:=qh (bst sS7.o hb8);refine hK.out _ _ (fun _=>sS8.o) ?_;clear hK K;refine rd1 6 (by kernel_rfl) rfl (fun K hK=> ?_);go_simp;go_wp2_with ((go_at_call 118;(with_reducible refine mi1 w (jg7 (v:Int) _ HRV.o) (by go_size) fun w9 s9 A9 n9 c9 hr9 hb9 hc9 hf9 z9_0 _=> ?_));have hx9:b4 < w9.heap.size:=(by have:=hb9.size;(try simp at this);omega))
   have sS9:=qh (bst sS8.o hb9);refine hK.out _ _ (fun _=>sS9.o) ?_;clear hK K;refine rd1 7 (by kernel_rfl) rfl (fun K hK=> ?_);go_simp;go_wp2_with ((go_at_call 143;(with_reducible refine mi1 w (jsf HZ.o (by with_reducible repeat first|assumption|apply rZ|refine rP ?_ rfl (by simp [go_sem,hc9])) hr9 HL2.o HL3.o) (by go_size) fun w10 s10 A10 n10 c10 hr10 hb10 hc10 hf10 z10_0 _=> ?_));have hx10:b4 < w10.heap.size:=(by have:=hb10.size;(try simp at this);omega))
   have sS10:=qh (bst sS9.o hb10);refine hK.out _ _ (fun _=>sS10.o) ?_;clear hK K;refine rd1 8 (by kernel_rfl) rfl (fun K hK=> ?_);go_simp;refine hK.out _ _ (fun h=>(h (by decide)).elim) ?_;clear hK K;refine ja2 (by kernel_rfl) ?_ _;have q4:=jat r k;have k0:w10.cell? ⟨b4,0,none⟩=some (.int .i64 so):=by simp [go_sem,hc10,hx9,hc9,hx8,hc8,hx7,hc7,hx6,hc6,hx5,f0,f1,f2,f3,z9_0,z8_0,z7_0,z6_0,z5_0]
   have k1:w10.cell? ⟨b4,1,none⟩=some (.slice Ao no co):=by simp [go_sem,hc10,hx9,hc9,hx8,hc8,hx7,hc7,hx6,hc6,hx5,f0,f1,f2,f3,z9_0,z8_0,z7_0,z6_0,z5_0]
   have e5:Rep ((w10.setCell ⟨b4,0,none⟩ (.int .i64 s10)).setCell ⟨b4,1,none⟩ (.slice A10 n10 c10)) s10 A10 n10 c10 ((z:Nat):Int):=(by with_reducible repeat first|assumption|apply rZ|refine rP ?_ rfl (by simp [go_sem,k0,k1,hx10]));obtain ⟨V,hWV⟩:∃x,(w10.setCell ⟨b4,0,none⟩ (.int .i64 s10)).setCell ⟨b4,1,none⟩ (.slice A10 n10 c10)=x:=⟨_,rfl⟩;have cV_0:V.cell? ⟨b4,0,none⟩=some (.int .i64 s10):=(by rw [←hWV];simp [go_sem,k0,k1,hn0,Ne.symm hn0,hc10,hx9,hc9,hx8,hc8,hx7,hc7,hx6,hc6,hx5,f0,f1,f2,f3,z9_0,z8_0,z7_0,z6_0,z5_0]);have cV_1:V.cell? ⟨b4,1,none⟩=some (.slice A10 n10 c10):=(by rw [←hWV];simp [go_sem,k0,k1,hn0,Ne.symm hn0,hc10,hx9,hc9,hx8,hc8,hx7,hc7,hx6,hc6,hx5,f0,f1,f2,f3,z9_0,z8_0,z7_0,z6_0,z5_0]);have cV_2:V.cell? ⟨w.heap.size,0,none⟩=some (.int .i64 0):=(by rw [←hWV];simp [go_sem,k0,k1,hn0,Ne.symm hn0,hc10,hx9,hc9,hx8,hc8,hx7,hc7,hx6,hc6,hx5,f0,f1,f2,f3,z9_0,z8_0,z7_0,z6_0,z5_0]);have cV_3:V.cell? ⟨w.heap.size,1,none⟩=some (.slice none 0 0):=(by rw [←hWV];simp [go_sem,k0,k1,hn0,Ne.symm hn0,hc10,hx9,hc9,hx8,hc8,hx7,hc7,hx6,hc6,hx5,f0,f1,f2,f3,z9_0,z8_0,z7_0,z6_0,z5_0]);have fV_0:∀o,V.frozen? ⟨b4,o,none⟩=false:=(by intro o;rw [←hWV];simp [go_sem,hf10,hx9,hf9,hx8,hf8,hx7,hf7,hx6,hf6,hx5,g0,g1,z9_0,z8_0,z7_0,z6_0,z5_0]);have fV_1:∀o,V.frozen? ⟨w.heap.size,o,none⟩=false:=(by intro o;rw [←hWV];simp [go_sem,hf10,hx9,hf9,hx8,hf8,hx7,hf7,hx6,hf6,hx5,g0,g1,z9_0,z8_0,z7_0,z6_0,z5_0]);have zV_0:w.heap.size < V.heap.size:=(by rw [←hWV];first|assumption|(simp;done)|(simp;omega));have zV_1:b4 < V.heap.size:=(by rw [←hWV];first|assumption|(simp;done)|(simp;omega));have bV:Below w.heap.size w V:=(by rw [←hWV];exact (bq (by with_reducible repeat' first|assumption|constructor|go_size)));have _:=bm bV;simp only [hWV];rw [hWV] at e5;clear hWV;have hkr:k≤r.length:=by have:=HK.o;omega
   go_wp2;exact ⟨⟨pre++r.take k,r.drop k,s10,A10,n10,c10,rfl,by rw [List.append_assoc,List.take_append_drop];exact HPR.o,{ rep:=by rw [HVAL.o];exact e5,c0:=cV_0,c1:=cV_1,c2:=cV_2,c3:=cV_3,f0:=fV_0,f1:=fV_1,bel:=bV,sz:=⟨HI.o.sz.1,zV_1⟩ }⟩,by have:=HK0.o;simp;omega⟩
end

theorem jhn {x:Nat} (h:x < B64):x < 2^Lib.bitLen x∧Lib.bitLen x≤64:=by
 by_cases h0:x=0
 ·subst h0;exact ⟨by simp [Lib.bitLen,Lib.bitLenAux],by simp [Lib.bitLen,Lib.bitLenAux]⟩
 ·have h1:=Lib.bitLenAux_bounds 64 x (by rw [ja3] at h;omega) h0;refine ⟨h1.2.2, ?_⟩;show Lib.bitLenAux 64 x≤64
  rcases Nat.lt_or_ge 64 (Lib.bitLenAux 64 x) with h2|h2
  ·have h3:=Nat.pow_le_pow_right (show 0 < 2 by omega) (show 64≤Lib.bitLenAux 64 x - 1 by omega);have h4:=h1.2.1;rw [ja3] at h;omega
  ·exact h2
theorem jss {ds:List Nat} {n:Nat} (hd:Pos.Dig B64 ds) (hl:ds.length=n+1):Pos.nv B64 ds < 2^(64*n+Lib.bitLen (dg ds n)):=by
 have h1:=Pos.nv_take_succ (b:=B64) (l:=ds) (i:=n) (by omega);rw [List.take_of_length_le (by omega)] at h1;have h2:ds[n]'(by omega)=dg ds n:=(gd (by omega)).symm;rw [h2] at h1;have h3:=Pos.nv_lt (hd.take n);rw [List.length_take,Nat.min_eq_left (by omega)] at h3;have h4:=(jhn (x:=dg ds n) (by have:=ja8 hd n;rw [ja3];exact this)).1;have h5:(2:Nat)^(64*n)=B64^n:=by rw [Nat.pow_mul,ja3]
 rw [Nat.pow_add,h5];have h6:B64^n*(dg ds n+1)≤B64^n*2^Lib.bitLen (dg ds n):=Nat.mul_le_mul_left _ h4;rw [Nat.mul_add] at h6;omega

theorem jl0 {x k:Nat} (hx:x < 18446744073709551616) (hk:Lib.bitLen x=k) (w:World):Calls prog 175 #[.int .u64 (x:Int)] w fun e w'=>e= .returned (.int .i64 (k:Int))∧Below w.heap.size w w':=by
 subst hk;refine (Tryz.bits_Len64 (x:Int) w (by omega) (by omega)).mono ?_
 rintro e w' ⟨rfl,rfl⟩
 exact ⟨by simp,Below.refl _ _⟩
section
variable {s z:Int} {A:Option Addr} {n c:Nat} {w:World}
theorem jqp (h:Rep w s A n c z):Calls prog 144 #[iv s A n c] w fun e w'=>∃k:Nat,e= .returned (.int .i64 (k:Int))∧z.natAbs < 2^k∧k < 9223372036854775808∧Below w.heap.size w w':=by
 have HR:=qh h;clear h;go_enter func144,ntmps144;go_wp2_with (go_at_call 129;(with_reducible refine (jig _ _ _ _ _ _ (HR.o.below bi)).mono ?_);rintro e1 w1 ⟨A1,n1,c1,ds,rfl,hW,hT,hnc,hcc,hv,hb1⟩;obtain ⟨hc1,hf1,z1_0,_⟩:=bc1 w hb1 (by go_size);refine Hd.out ?_)
 rcases Nat.eq_zero_or_pos n1 with h0|h0
 ·subst h0;have e:ds=[]:=List.eq_nil_of_length_eq_zero hW.len;subst e;have hv0:z.natAbs=0:=by rw [←hv];rfl
  refine qh ?_;go_wp2;exact bodyPost_ret (v:= .int .i64 ((0:Nat):Int)) (by simp [results,results144,go_sem]) rfl ⟨0,rfl,by omega,by omega,bi⟩
 ·obtain ⟨m,rfl⟩:∃m,n1=m+1:=⟨n1 - 1,by omega⟩;obtain ⟨b,o,rfl,hbl,hce⟩:=hW.at_ (by omega);have hcm:=hce m (by omega);obtain ⟨x,hx⟩:∃x,dg ds m=x:=⟨_,rfl⟩;rw [hx] at hcm;have hB:=jss hW.dig hW.len;have hxl:=jhn (x:=x) (by rw [←hx];have:=ja8 hW.dig m;rw [ja3];exact this);rw [hx,hv] at hB;have hx64:=ja8 hW.dig m;rw [hx] at hx64;have q1:(((m+1:Nat):Int) - 1)=(m:Int):=by omega
  have hm:m < 1099511627776:=by omega
  have HB:=qh hB;have HX:=qh hxl;have HV:=qh (ai hv hx);clear hB hxl hv hx hce hW hT;have q0:(((m+1:Nat):Int)==0)=false:=by rw [beq_eq_false_iff_ne];omega
  refine qh ?_;obtain ⟨k,hk⟩:∃k,Lib.bitLen x=k:=⟨_,rfl⟩;have HX64:=qh (ai hx64 hk);rw [hk] at HB HX;clear hx64 hk;go_wp2_with (go_at_call 175;(with_reducible refine mo1 w (jl0 HX64.o.1 HX64.o.2 _) (by go_size) fun w2 hb2 hc2 hf2 z2_0 _=> ?_))
  have hw:wrap64 (64*(m:Int)+(k:Int))=64*(m:Int)+(k:Int):=by have:=HX.o;unfold wrap64;omega
  exact bodyPost_ret (v:= .int .i64 ((64*m+k:Nat):Int)) (by simp [results,results144,go_sem,hw]) rfl ⟨64*m+k,rfl,HB.o,by have:=HX.o;omega,bi⟩

abbrev ji0 (z:Int):Prop:=∀(w:World) (s:Int) (A:Option Addr) (n c:Nat),Rep w s A n c z→Env w→Calls prog 104 #[iv s A n c] w fun e w'=>e= .returned (bs (Lib.itoa z))∧Below w.heap.size w w'
theorem Rep.small_none (h:Rep w s A n c z) (hz:R64 z) (hm:z≠ -9223372036854775808):A=none:=by
 cases h with
 | small _ h0 h1=>rfl
 | plus _ _ _ ds h=>have:=h.big;have:=hz.1;have:=hz.2;omega
 | minus _ _ _ ds h=>have:=h.big;have:=hz.1;have:=hz.2;omega
theorem jjS (z:Int) (w:World) (hz:R64 z) (hE:Env w):Calls prog 104 #[iv z none 0 0] w fun e w'=>e= .returned (bs (Lib.itoa z))∧Below w.heap.size w w':=by
 have qe:=jak;have HE:=qh hE;have HZ:=qh hz;clear hE hz;go_enter func104,ntmps104;go_wp2_with (go_at_call 145;(with_reducible refine mo1 w (jqk (HE.o.below bi) HZ.o) (by go_size) fun w1 hb1 hc1 hf1 z1_0 _=> ?_))
 go_ret;exact ⟨rfl,bi⟩
theorem jeG {z:Int} (hz:R64 z) (hm:z≠ -9223372036854775808):ji0 z:=fun w s A n c h hE=>by
 have:=h.small_none hz hm;subst this;obtain ⟨rfl,rfl,rfl,_⟩:=h.none_;exact jjS s w hz hE

def lng (z:Int):Bool:=decide (600 < (Lib.decDigits z.natAbs).length)
theorem jhh {x k:Nat} (h:x < 10^(k+1)):(Lib.decDigits x).length≤k+1:=by
 rcases Nat.lt_or_ge x 1 with h0|h0
 ·have:x=0:=by omega
  subst this;unfold Lib.decDigits;simp
 ·obtain ⟨j,hj1,hj2⟩:∃j,10^j≤x∧x < 10^(j+1):=by
   have:∀k,x < 10^k→∃j,10^j≤x∧x < 10^(j+1):=by
    intro k
    induction k with
    | zero=>intro h;simp at h;omega
    | succ k ih=>
      intro h;rcases Nat.lt_or_ge x (10^k) with h1|h1
      ·exact ih h1
      ·exact ⟨k,h1,h⟩
   exact this _ h
  rw [Dig.digits_len hj1 hj2];rcases Nat.lt_or_ge j (k+1) with h1|h1
  ·omega
  ·have:=Nat.pow_le_pow_right (show 0 < 10 by omega) h1;omega
theorem jmz (n:Nat):(2:Nat)^(3*n)≤10^n:=by rw [Nat.pow_mul];exact Nat.pow_le_pow_left (by decide) n
theorem jtn {x k n:Nat} (h:x < 2^k) (hk:k≤3*(n+1)):x < 10^(n+1):=
 Nat.lt_of_lt_of_le h (Nat.le_trans (Nat.pow_le_pow_right (by omega) hk) (jmz (n+1)))
theorem joQ {x k n:Nat} (h:x < 2^k) (hk:k≤3*(n+1)):(Lib.decDigits x).length≤n+1:=jhh (jtn h hk)
theorem jsP {x k:Nat} (h:x < 2^k) (hk:k≤1800):lng (x:Int)=false:=by
 have:=joQ (n:=599) h (by omega);simp [lng];omega
theorem juk {z:Int} {k:Nat} (h:z.natAbs < 2^k) (hk:k≤1800):lng z=false:=by
 have:=jsP h hk;simpa [lng] using this
theorem jil (z:Int):(Lib.trimPrefix (Lib.itoa z) [45]).length=(Lib.decDigits z.natAbs).length:=by
 unfold Lib.itoa;split
 ·simp [Lib.trimPrefix,Lib.hasPrefix,List.isPrefixOf]
 ·rename_i h
  rw [jd2 (Dig.digits_dig _).1,show z.toNat=z.natAbs by omega]

theorem joK (h:Rep w s A n c z) (hE:Env w) (hS:ji0 z):Calls prog 102 #[iv s A n c] w fun e w'=>e= .returned (.bool (lng z))∧Below w.heap.size w w':=by
 have HR:=qh h;have HE:=qh hE;have HS:=qh hS;obtain ⟨g,hg⟩:∃g,lng z=g:=⟨_,rfl⟩;rw [hg];have HG:=qh hg;clear h hE hS hg;go_enter func102,ntmps102;go_wp2_with (go_at_call 144;(with_reducible refine (jqp (HR.o.below bi)).mono ?_);rintro e1 w1 ⟨k,rfl,hk,hk2,hb1⟩;obtain ⟨hc1,hf1,z1_0,_⟩:=bc1 w hb1 (by go_size);refine Hd.out ?_)
 rcases Nat.lt_or_ge 1800 k with h0|h0
 ·have q0:decide (1800 < (k:Int))=true:=by simp;omega
  have HL:=qh (jil z);obtain ⟨m,hm⟩:∃m,(Lib.decDigits z.natAbs).length=m:=⟨_,rfl⟩;obtain ⟨t,ht⟩:∃t,Lib.trimPrefix (Lib.itoa z) [45]=t:=⟨_,rfl⟩;have hlen:t.length=m:=by rw [←ht,jil,hm]
  have HT:=qh ht;have hgm:decide (600 < (m:Int))=g:=by rw [←HG.o,←hm];simp [lng];omega
  clear hk hk2 h0 hm ht;refine qh ?_
  go_wp2_with (first
   | (go_at_call 104;(with_reducible refine mo1 w (HS.o _ _ _ _ _ (HR.o.below bi) (HE.o.below bi)) (by go_size) fun w2 hb2 hc2 hf2 z2_0 _=> ?_))
   | (go_at_call 121;(with_reducible refine mo1 w (jad HT.o) (by go_size) fun w3 hb3 hc3 hf3 z3_0 _=> ?_)))
  go_ret;exact ⟨rfl,bi⟩
 ·have q0:decide (1800 < (k:Int))=false:=by simp;omega
  have hgf:g=false:=by rw [←HG.o];exact juk hk h0
  subst hgf;clear hk hk2 h0;refine qh ?_;go_wp2;go_ret;exact ⟨rfl,bi⟩
end

def tq (x:Rat):List UInt8:=if x.den=1 then Lib.itoa x.num else Lib.itoa x.num++47::Lib.decDigits x.den
theorem jdn (n:Nat):Lib.itoa ((n:Nat):Int)=Lib.decDigits n:=by
 unfold Lib.itoa;rw [if_neg (by omega)];simp
theorem jfQ (c:UInt8):∀(a b:List UInt8),c ∉ a→Lib.index (a++c::b) [c]=a.length
 | [],b,_=>by simp [Lib.index,List.isPrefixOf]
 | x::a,b,h=>by
   have h1:c≠x:=fun e=>h (by simp [e])
   have h2:=jfQ c a b (fun hm=>h (List.mem_cons_of_mem _ hm));have h3:(c==x)=false:=by rw [beq_eq_false_iff_ne];exact h1
   simp only [List.cons_append,Lib.index,List.isPrefixOf,h3,Bool.false_and,h2];have h4:(((a.length:Nat):Int)== -1)=false:=by rw [beq_eq_false_iff_ne];omega
   simp [h4]
theorem jfR (c:UInt8):∀(a:List UInt8),c ∉ a→Lib.index a [c]= -1
 | [],_=>by simp [Lib.index]
 | x::a,h=>by
   have h1:c≠x:=fun e=>h (by simp [e])
   have h2:=jfR c a (fun hm=>h (List.mem_cons_of_mem _ hm));have h3:(c==x)=false:=by rw [beq_eq_false_iff_ne];exact h1
   simp [Lib.index,List.isPrefixOf,h3,h2]
theorem jdu {c:UInt8} {a:List UInt8} (b:List UInt8) (h:c ∉ a):Lib.cut (a++c::b) [c]=(a,b,true):=by
 unfold Lib.cut;rw [jfQ c a b h];simp
theorem jcD {c:UInt8} {a:List UInt8} (h:c ∉ a):Lib.cut a [c]=(a,[],false):=by
 unfold Lib.cut;rw [jfR c a h];simp
theorem jc1 (c:UInt8):∀(l:List UInt8),c ∉ l∨∃a b,l=a++c::b∧c ∉ a
 | []=>Or.inl (by simp)
 | x::l=>by
   by_cases h:x=c
   ·subst h;exact Or.inr ⟨[],l,rfl,by simp⟩
   ·rcases jc1 c l with h1|⟨a,b,rfl,h2⟩
    ·exact Or.inl (by simp [h1,Ne.symm h])
    ·exact Or.inr ⟨x::a,b,rfl,by simp [h2,Ne.symm h]⟩
theorem jdY (n:Nat):(47:UInt8) ∉ Lib.decDigits n:=fun h=>by
 have:=(Dig.digits_dig n).1 _ h
 revert this;decide
theorem jbg (z:Int):(47:UInt8) ∉ Lib.itoa z:=by
 unfold Lib.itoa;split
 ·simp only [List.mem_cons,not_or];exact ⟨by decide,jdY _⟩
 ·exact jdY _
theorem jd6 (z:Int):Lib.hasPrefix (Lib.itoa z) [45]=decide (z < 0)∧Lib.trimPrefix (Lib.itoa z) [45]=Lib.decDigits z.natAbs:=by
 unfold Lib.itoa;split
 ·rename_i h
  simp [Lib.trimPrefix,Lib.hasPrefix,List.isPrefixOf,h]
 ·rename_i h
  have e:z.toNat=z.natAbs:=by omega
  rw [jd2 (Dig.digits_dig _).1,jec (Dig.digits_dig _).1,e];simp [h]
theorem jaj (a b:List UInt8):(⟨a.toArray⟩:ByteArray)++⟨b.toArray⟩=⟨(a++b).toArray⟩:=by
 apply ByteArray.ext;simp [ByteArray.data_append]
theorem jjE {z:Int} (h:(Lib.decDigits z.natAbs).length≤5000):(Lib.itoa z).length≤5001:=by
 unfold Lib.itoa;split
 ·simp;exact h
 ·rename_i h';rw [show z.toNat=z.natAbs by omega];omega
structure StrQ (x:Rat):Prop where
 num:ji0 x.num
 den:ji0 ((x.den:Nat):Int)
def je3 (x:Rat):Bool:=lng x.num || lng ((x.den:Nat):Int)
structure DigQ (x:Rat):Prop where
 num:(Lib.decDigits x.num.natAbs).length≤5000
 den:(Lib.decDigits x.den).length≤5000

theorem jeA {w:World} {s z:Int} {A:Option Addr} {n c:Nat} {g:Bool} (hg:lng z=g) (h:Rep w s A n c z) (hE:Env w) (hS:ji0 z):Calls prog 102 #[iv s A n c] w fun e w'=>e= .returned (.bool g)∧Below w.heap.size w w':=hg ▸ joK h hE hS
theorem jkm {w:World} (z:Int) (hl:(Lib.decDigits z.natAbs).length≤5000):Calls prog 101 #[bs (Lib.itoa z)] w (ja7 z w):=by
 have h:=jfa (w:=w) (jd6 z).1 (jd6 z).2 (Dig.digits_dig _).1 hl;rwa [Dig.val_digits,jht] at h
theorem jpt {w:World} (n:Nat) (hl:(Lib.decDigits n).length≤5000):Calls prog 101 #[bs (Lib.decDigits n)] w (ja7 ((n:Nat):Int) w):=by
 have h:=jkm (w:=w) ((n:Nat):Int) (by simpa using hl);rwa [jdn] at h
theorem jaM {w:World} {l p a b:List UInt8} {g:Bool} (hc:Lib.cut l p=(a,b,g)) (hE:Env w) (hl:l.length < 4294967281):Calls prog 99 #[bs l,bs p] w fun e w'=>e= .returned (.tuple #[bs a,bs b, .bool g])∧Below w.heap.size w w':=by
 have:=jst (p:=p) hE hl;rwa [hc] at this
section
variable {s t:Int} {A B:Option Addr} {n c m d:Nat} {w:World} {x:Rat}
theorem jml (h:RepF w s A n c t B m d x) (hE:Env w) (hS:StrQ x):Calls prog 52 #[fv s A n c t B m d] w fun e w'=>e= .returned (.bool (je3 x))∧Below w.heap.size w w':=by
 have HR:=qh h;have HE:=qh hE;have HS:=qh hS;obtain ⟨g1,hg1⟩:∃g,lng x.num=g:=⟨_,rfl⟩;obtain ⟨g2,hg2⟩:∃g,lng ((x.den:Nat):Int)=g:=⟨_,rfl⟩;have e:je3 x=(g1 || g2):=by rw [←hg1,←hg2];rfl
 rw [e];have HG1:=qh hg1;have HG2:=qh hg2;clear h hE hS hg1 hg2 e;cases g1
 ·go_enter func52,ntmps52
  go_wp2_with (first
   | (go_at_call 102;(with_reducible show Calls _ _ #[iv s A n c] _ _);(with_reducible refine mo1 w (jeA HG1.o (HR.o.num.below bi) (HE.o.below bi) HS.o.num) (by go_size) fun w1 hb1 hc1 hf1 z1_0 _=> ?_))
   | (go_at_call 102;(with_reducible show Calls _ _ #[iv t B m d] _ _);(with_reducible refine mo1 w (jeA HG2.o (HR.o.den.below bi) (HE.o.below bi) HS.o.den) (by go_size) fun w2 hb2 hc2 hf2 z2_0 _=> ?_)))
  go_ret;exact ⟨by simp,bi⟩
 ·go_enter func52,ntmps52;go_wp2_with (go_at_call 102;(with_reducible refine mo1 w (jeA HG1.o (HR.o.num.below bi) (HE.o.below bi) HS.o.num) (by go_size) fun w1 hb1 hc1 hf1 z1_0 _=> ?_))
  go_ret;exact ⟨by simp,bi⟩

theorem jgy (h:RepF w s A n c t B m d x) (hE:Env w) (hS:StrQ x) (hD:DigQ x):Calls prog 53 #[fv s A n c t B m d] w fun e w'=>e= .returned (bs (tq x))∧Below w.heap.size w w':=by
 have HR:=qh h;have HE:=qh hE;have HS:=qh hS;by_cases hd:x.den=1
 ·have HD:=qh (show decide (x.den=1)=true by simp [hd]);have e:tq x=Lib.itoa x.num:=by unfold tq;rw [if_pos hd]
  rw [e];obtain ⟨l,hl⟩:∃l,Lib.itoa x.num=l:=⟨_,rfl⟩;have hst:=HS.o.num;unfold ji0 at hst;rw [hl] at hst ⊢;have HT:=qh hst;clear h hE hS hd e hl hst;go_enter func53,ntmps53
  go_wp2_with (first
   | (go_at_call 103;(with_reducible refine mo1 w (jaJ HD.o (HR.o.below bi)) (by go_size) fun w1 hb1 hc1 hf1 z1_0 _=> ?_))
   | (go_at_call 104;(with_reducible refine mo1 w (HT.o _ _ _ _ _ (HR.o.num.below bi) (HE.o.below bi)) (by go_size) fun w2 hb2 hc2 hf2 z2_0 _=> ?_)))
  go_ret;exact ⟨rfl,bi⟩
 ·have HD:=qh (show decide (x.den=1)=false by simp [hd]);have e:tq x=Lib.itoa x.num++[47]++Lib.decDigits x.den:=by unfold tq;rw [if_neg hd];simp
  rw [e];obtain ⟨l,hl⟩:∃l,Lib.itoa x.num=l:=⟨_,rfl⟩;obtain ⟨k,hk⟩:∃l,Lib.decDigits x.den=l:=⟨_,rfl⟩;have hst:=HS.o.num;have hst2:=HS.o.den;unfold ji0 at hst hst2;rw [jdn] at hst2;rw [hl] at hst ⊢;rw [hk] at hst2 ⊢;have HT:=qh hst;have HT2:=qh hst2;have b1:l.length≤5001:=by rw [←hl];exact jjE hD.num
  have b2:k.length≤5000:=by rw [←hk];exact hD.den
  have b3:l.length≤9223372036854775806:=by omega
  have b4:¬(9223372036854775807 < l.length+1+k.length):=by omega
  clear hD b1 b2;have c1:=jaj l [47];have c2:=jaj (l++[47]) k;clear h hE hS hd e hl hk hst hst2;go_enter func53,ntmps53
  go_wp2_with (first
   | (go_at_call 103;(with_reducible refine mo1 w (jaJ HD.o (HR.o.below bi)) (by go_size) fun w1 hb1 hc1 hf1 z1_0 _=> ?_)))
  refine ja1 (fun w'=>Below w1.heap.size w1 w') [] (by kernel_rfl) ?_;refine tl [(0,[1], .pointer (some ⟨w.heap.size,0,none⟩)),(1,[2], .agg #[.int .i64 s, .slice A n c]),(4,[5], .pointer (some ⟨w.heap.size,2,none⟩)),(5,[6], .agg #[.int .i64 t, .slice B m d])] [_,_,_,_] rfl (by kernel_rfl) pk5 (by intros;simp only [tyq,ppq];go_simp) bq0 ?_;simp only [tlq,ppq];refine rd1 2 (by kernel_rfl) rfl (fun K hK=> ?_);go_simp;go_wp2_with (go_at_call 104;(with_reducible refine mo1 w (HT.o _ _ _ _ _ (HR.o.num.below bi) (HE.o.below bi)) (by go_size) fun w2 hb2 hc2 hf2 z2_0 _=> ?_))
  have sS2:=qh (bst bq0 hb2);refine hK.out _ _ (fun _=>sS2.o) ?_;clear hK K;refine tb 3 (bs (l++[47])) [7] rfl (by kernel_rfl) pk rfl (by intros;go_simp) sS2.o ?_;simp only [ppq];refine rd1 6 (by kernel_rfl) rfl (fun K hK=> ?_);go_simp;go_wp2_with (go_at_call 104;(with_reducible refine mo1 w (HT2.o _ _ _ _ _ (HR.o.den.below bi) (HE.o.below bi)) (by go_size) fun w3 hb3 hc3 hf3 z3_0 _=> ?_))
  have sS3:=qh (bst sS2.o hb3);refine hK.out _ _ (fun _=>sS3.o) ?_;clear hK K;refine rd1 7 (by kernel_rfl) rfl (fun K hK=> ?_);go_simp;refine hK.out _ _ (fun _=>bi) ?_;clear hK K;refine rd1 8 (by kernel_rfl) rfl (fun K hK=> ?_);go_simp;refine hK.out _ _ (fun _=>bi) ?_;clear hK K;refine ja2 (by kernel_rfl) ?_ _;go_wp2;go_ret;exact ⟨by simp,bi⟩

theorem jqe (hE:Env w) (hD:DigQ x):Calls prog 51 #[bs (tq x)] w (jaa x w):=by
 have HE:=qh hE;have hi:(Lib.itoa x.num).length≤5001:=jjE hD.num;have h2:=hD.den;have HR1:=qh (fun W=>jkm (w:=W) x.num hD.num);have HR2:=qh (fun W=>jpt (w:=W) x.den hD.den);by_cases hd:x.den=1
 ·have e:tq x=Lib.itoa x.num:=by unfold tq;rw [if_pos hd]
  have hW:=qh (show ((x.num:Int):Rat)=x from Rat.ext rfl hd.symm);rw [e];have HC:=qh (jcD (jbg x.num));obtain ⟨l,hl⟩:∃l,Lib.itoa x.num=l:=⟨_,rfl⟩;rw [hl] at hi HR1 HC ⊢;have HL:=qh (show l.length < 4294967281 by omega);clear hE hD hd e hl hi h2 HR2;go_enter func51,ntmps51
  go_wp2_with (first
   | (go_at_call 99;(with_reducible refine mo1 w (jaM HC.o (HE.o.below bi) HL.o) (by go_size) fun w1 hb1 hc1 hf1 z1_0 _=> ?_))
   | (go_at_call 101;(with_reducible refine mi1 w (HR1.o _) (by go_size) fun w2 s2 A2 n2 c2 hr2 hb2 hc2 hf2 z2_0 _=> ?_))
   | (go_at_call 100;(with_reducible refine mf1 w (jgb hW.out hr2) (by go_size) fun w3 s3 A3 n3 c3 t3 B3 m3 d3 hr3 hq3 hb3 hc3 hf3 z3_0 _=> ?_)))
  exact bodyPost_ret (v:= .agg #[.int .i64 (s3), .slice (A3) (n3) (c3), .int .i64 (t3), .slice (B3) (m3) (d3)]) (by simp [results,results51,go_sem,hc3,z2_0,hc2,z1_0,hc1]) rfl (jan rfl (by constructor <;> (with_reducible repeat first|assumption|apply rZ|refine rP ?_ rfl (by simp [go_sem,hc3,z2_0,hc2,z1_0,hc1]))) bi)
 ·have e:tq x=Lib.itoa x.num++47::Lib.decDigits x.den:=by unfold tq;rw [if_neg hd]
  rw [e];have HC:=qh (jdu (Lib.decDigits x.den) (jbg x.num));have HL:Hd ((Lib.itoa x.num++47::Lib.decDigits x.den).length < 4294967281):=qh (by simp;omega);obtain ⟨l,hl⟩:∃l,Lib.itoa x.num=l:=⟨_,rfl⟩;obtain ⟨k,hk⟩:∃l,Lib.decDigits x.den=l:=⟨_,rfl⟩;rw [hl] at HR1 HC HL ⊢;rw [hk] at HR2 HC HL ⊢;obtain ⟨L,hLL⟩:∃L,l++47::k=L:=⟨_,rfl⟩;rw [hLL] at HC HL ⊢;clear hE hD hd e hl hi h2 hk hLL;go_enter func51,ntmps51
  go_wp2_with (first
   | (go_at_call 99;(with_reducible refine mo1 w (jaM HC.o (HE.o.below bi) HL.o) (by go_size) fun w1 hb1 hc1 hf1 z1_0 _=> ?_))
   | (go_at_call 101;(with_reducible show Calls _ _ #[bs l] _ _);(with_reducible refine mi1 w (HR1.o _) (by go_size) fun w2 s2 A2 n2 c2 hr2 hb2 hc2 hf2 z2_0 _=> ?_))
   | (go_at_call 101;(with_reducible show Calls _ _ #[bs k] _ _);(with_reducible refine mi1 w (HR2.o _) (by go_size) fun w3 s3 A3 n3 c3 hr3 hb3 hc3 hf3 z3_0 _=> ?_)))
  exact bodyPost_ret (v:= .agg #[.int .i64 (s2), .slice (A2) (n2) (c2), .int .i64 (s3), .slice (A3) (n3) (c3)]) (by simp [results,results51,go_sem,hc3,z2_0,hc2,z1_0,hc1]) rfl (jan rfl (by constructor <;> (with_reducible repeat first|assumption|apply rZ|refine rP ?_ rfl (by simp [go_sem,hc3,z2_0,hc2,z1_0,hc1]))) bi)
end

abbrev ten:List UInt8:=[48,49,50,51,52,53,54,55,56,57]
def dgs (l:List UInt8):Bool:= !l.isEmpty && l.all Dig.isDig
theorem jrV (c:UInt8):ten.contains c=Dig.isDig c:=by
 have:∀k:Fin 256,ten.contains (UInt8.ofNat k.val)=Dig.isDig (UInt8.ofNat k.val):=by decide+kernel
 have h:=this ⟨c.toNat,c.toNat_lt⟩;rw [UInt8.ofNat_toNat] at h;exact h
theorem jbc {p:UInt8→Bool}:∀(l:List UInt8),l.dropWhile p=[]↔l.all p=true
 | []=>by simp
 | c::l=>by
   by_cases h:p c=true
   ·simp [List.dropWhile,h,jbc l]
   ·simp [List.dropWhile,h]
theorem jcL {p:UInt8→Bool} (l:List UInt8):l.reverse.all p=l.all p:=by simp
theorem jcI {p:UInt8→Bool}:∀(l:List UInt8),l.dropWhile p=[]∨∃c r,l.dropWhile p=c::r∧p c=false
 | []=>Or.inl rfl
 | c::l=>by
   by_cases h:p c=true
   ·simp only [List.dropWhile,h];exact jcI l
   ·exact Or.inr ⟨c,l,by simp [List.dropWhile,h],by simpa using h⟩
theorem jqf (l:List UInt8):Lib.trimS l ten=[]↔l.all Dig.isDig=true:=by
 have e:(fun c=>ten.contains c)=Dig.isDig:=funext jrV;unfold Lib.trimS Lib.trimLeftS Lib.trimRightS;rw [e,jbc (p:=Dig.isDig),jcL];rcases jcI (p:=Dig.isDig) l.reverse with h|⟨c,r,h,hc⟩
 ·rw [h];have h1:=(jbc l.reverse).1 h;rw [jcL] at h1;simp [h1]
 ·rw [h]
  have h1:¬(l.all Dig.isDig=true):=fun h2=>by
   rw [←jcL,←jbc,h] at h2;cases h2
  simp [hc,h1]
theorem jlZ (a b:List UInt8):((⟨a.toArray⟩:ByteArray)==⟨b.toArray⟩)=(a==b):=by
 show (a.toArray==b.toArray)=(a==b)
 simp
section
variable {w:World} {l:List UInt8}
theorem jfw (hl:l.length≤9223372036854775807):Calls prog 200 #[bs l, .string ⟨#[48,49,50,51,52,53,54,55,56,57]⟩] w fun e w'=>e= .returned (bs (Lib.trimS l ten))∧Below w.heap.size w w':=
 (Any.strings_Trim_laid Tryz.lays160 (by kernel_rfl) ⟨l.toArray⟩ ⟨#[48,49,50,51,52,53,54,55,56,57]⟩ w (by simpa [ByteArray.size] using hl) (by decide) (ascii_of_all (by decide))).mono fun e w' ⟨he,hw⟩=>⟨by simpa using he,hw⟩
theorem jjF (l:List UInt8):((⟨l.toArray⟩:ByteArray)==⟨#[]⟩)=l.isEmpty:=by
 rw [show (#[]:Array UInt8)=([]:List UInt8).toArray from rfl,jlZ];cases l <;> rfl
theorem jlf (hl:l.length≤9223372036854775807):Calls prog 162 #[bs l] w fun e w'=>e= .returned (.bool (dgs l))∧Below w.heap.size w w':=by
 have HL:=qh hl;clear hl;by_cases h0:l=[]
 ·subst h0;go_enter func162,ntmps162;go_wp2;go_ret;exact ⟨rfl,bi⟩
 ·obtain ⟨m,hm⟩:∃m,Lib.trimS l ten=m:=⟨_,rfl⟩
  have e:dgs l=m.isEmpty:=by
   rw [Bool.eq_iff_iff,List.isEmpty_iff,←hm,jqf];have:l.isEmpty=false:=by cases l with|nil=>exact absurd rfl h0|cons=>rfl
   simp [dgs,this]
  rw [e];have HT:=qh (fun W=>hm ▸ jfw (w:=W) HL.o);have q0:=jjF l;have q1:=jjF m;have q2:l.isEmpty=false:=by cases l with|nil=>exact absurd rfl h0|cons=>rfl
  clear hm e h0;go_enter func162,ntmps162;go_wp2_with (go_at_call 200;(with_reducible refine mo0 (HT.o _) fun w1 hb1 hc1 hf1 _=> ?_))
  go_ret;exact ⟨rfl,bi⟩
theorem jbU {g:Bool} (hg:dgs l=g) (hl:l.length≤9223372036854775807):Calls prog 162 #[bs l] w fun e w'=>e= .returned (.bool g)∧Below w.heap.size w w':=hg ▸ jlf hl
theorem jmf (hl:l.length≤9223372036854775807):Calls prog 122 #[bs l] w fun e w'=>e= .returned (.bool (Dig.plain l))∧Below w.heap.size w w':=by
 have HL:=qh hl;clear hl;by_cases h0:dgs l=false
 ·have e:Dig.plain l=false:=by
   unfold Dig.plain;unfold dgs at h0;rw [h0];rfl
  rw [e];have H0:=qh h0;clear e h0;go_enter func122,ntmps122;go_wp2_with (go_at_call 162;(with_reducible refine mo0 (jbU H0.o HL.o) fun w1 hb1 hc1 hf1 _=> ?_))
  go_ret;exact ⟨rfl,bi⟩
 ·have H0:=qh (show dgs l=true by simpa using h0);cases l with
  | nil=>exact absurd rfl h0
  | cons c r=>
  have e:Dig.plain (c::r)=((c::r==[48]) || (c != 48)):=by
   have h:=H0.o;unfold dgs at h;unfold Dig.plain;rw [h];by_cases hc:c=48 <;> simp [hc,bne]
  rw [e];have q2:∀h,(⟨(c::r).toArray⟩:ByteArray)[0]'h=c:=fun h=>rfl
  clear h0 e;by_cases hc:c=48
  ·subst hc;cases r with
   | nil=>
     go_enter func122,ntmps122;go_wp2_with (go_at_call 162;(with_reducible refine mo0 (jbU H0.o HL.o) fun w1 hb1 hc1 hf1 _=> ?_))
     go_ret;exact ⟨rfl,bi⟩
   | cons d r=>
     go_enter func122,ntmps122;go_wp2_with (go_at_call 162;(with_reducible refine mo0 (jbU H0.o HL.o) fun w1 hb1 hc1 hf1 _=> ?_))
     go_ret;exact ⟨by simp,bi⟩
  ·have q3:(c==48)=false:=by rw [beq_eq_false_iff_ne];exact hc
   have q4:(((c.toNat:Nat):Int) != 48)=true:=by
    rw [bne_iff_ne];intro h;exact hc (UInt8.toNat_inj.1 (by rw [show (48:UInt8).toNat=48 from rfl];omega))
   have q5:(c::r==[48])=false:=by simp [hc]
   have q6:(c != 48)=true:=by simp [hc]
   rw [q5,q6];clear q5 q6 hc;go_enter func122,ntmps122;go_wp2_with (go_at_call 162;(with_reducible refine mo0 (jbU H0.o HL.o) fun w1 hb1 hc1 hf1 _=> ?_))
   go_ret;exact ⟨by simp,bi⟩
theorem jae {g:Bool} (hg:Dig.plain l=g) (hl:l.length≤9223372036854775807):Calls prog 122 #[bs l] w fun e w'=>e= .returned (.bool g)∧Below w.heap.size w w':=hg ▸ jmf hl
end
section
variable {w:World} {l:List UInt8}
end

def jcF (x:Rat):List UInt8:=if je3 x then [] else tq x
def jbq (x:Rat):Int:=if je3 x then 4 else 0
theorem DigQ.of {x:Rat} (h:je3 x=false):DigQ x:=by
 simp only [je3,Bool.or_eq_false_iff,lng,decide_eq_false_iff_not] at h;exact ⟨by omega,by have:=h.2;simp only [Int.natAbs_natCast] at this;omega⟩
section
variable {s t:Int} {A B:Option Addr} {n c m d:Nat} {w:World} {x:Rat}
theorem jbf {g:Bool} (hg:je3 x=g) (h:RepF w s A n c t B m d x) (hE:Env w) (hS:StrQ x):Calls prog 52 #[fv s A n c t B m d] w fun e w'=>e= .returned (.bool g)∧Below w.heap.size w w':=hg ▸ jml h hE hS
theorem jBB (h:RepF w s A n c t B m d x) (hE:Env w) (hS:StrQ x):Calls prog 156 #[fv s A n c t B m d] w fun e w'=>e= .returned (.tuple #[bs (jcF x), .int .i64 (jbq x)])∧Below w.heap.size w w':=by
 have HR:=qh h;have HE:=qh hE;have HS:=qh hS;obtain ⟨g,hg⟩:∃g,je3 x=g:=⟨_,rfl⟩;have HG:=qh hg;cases g
 ·have HD:=qh (DigQ.of hg);have e1:jcF x=tq x:=by unfold jcF;rw [hg];rfl
  have e2:jbq x=0:=by unfold jbq;rw [hg];rfl
  rw [e1,e2];clear h hE hS hg e1 e2;go_enter func156,ntmps156
  go_wp2_with (first
   | (go_at_call 52;(with_reducible refine mo1 w (jbf HG.o (HR.o.below bi) (HE.o.below bi) HS.o) (by go_size) fun w1 hb1 hc1 hf1 z1_0 _=> ?_))
   | (go_at_call 53;(with_reducible refine mo1 w (jgy (HR.o.below bi) (HE.o.below bi) HS.o HD.o) (by go_size) fun w2 hb2 hc2 hf2 z2_0 _=> ?_)))
  go_ret2;exact ⟨rfl,bi⟩
 ·have e1:jcF x=[]:=by unfold jcF;rw [hg];rfl
  have e2:jbq x=4:=by unfold jbq;rw [hg];rfl
  rw [e1,e2];clear h hE hS hg e1 e2;go_enter func156,ntmps156;go_wp2_with (go_at_call 52;(with_reducible refine mo1 w (jbf HG.o (HR.o.below bi) (HE.o.below bi) HS.o) (by go_size) fun w1 hb1 hc1 hf1 z1_0 _=> ?_))
  go_ret2;exact ⟨rfl,bi⟩
end

def jcb (top size bottom:List UInt8) (is:Bool):Bool:= !Dig.plain size || (top==[45,48]) || (is && (!Dig.plain bottom || (bottom==[48]) || (bottom==[49])))
def jek (top size bottom:List UInt8) (is:Bool):Int:=
 if jcb top size bottom is then 1
 else if 600 < size.length∨600 < bottom.length then 4
 else if is && decide (Nat.gcd (Dig.val size) (Dig.val bottom)≠1) then 1 else 0
def chk (l:List UInt8):Int:=jek (Lib.cut l [47]).1 (Lib.trimPrefix (Lib.cut l [47]).1 [45]) (Lib.cut l [47]).2.1 (Lib.cut l [47]).2.2

theorem jg4 {l:List UInt8} (h:Dig.plain l=true):jcG l:=by
 unfold Dig.plain at h;simp only [Bool.and_eq_true] at h;exact fun c hc=>List.all_eq_true.1 h.1.2 c hc
theorem jcE {w:World} {s:Int} {A:Option Addr} {n c:Nat} {g:Bool} (hg:A.isNone=g):Calls prog 97 #[iv s A n c] w fun e w'=>e= .returned (.tuple #[.int .i64 s, .bool g])∧Below w.heap.size w w':=hg ▸ jlR
theorem jmi {l:List UInt8}:(Lib.cut l [47]).1.length≤l.length∧(Lib.cut l [47]).2.1.length≤l.length:=by
 rcases jc1 47 l with h|⟨a,b,rfl,h⟩
 ·rw [jcD h];simp
 ·rw [jdu b h];simp;omega
theorem jqn (l p:List UInt8):(Lib.trimPrefix l p).length≤l.length:=by
 unfold Lib.trimPrefix;split <;> simp

section
variable {w:World} {l top size bottom:List UInt8} {is:Bool}
theorem jmj (hE:Env w) (hl:l.length < 4294967281) (hc:Lib.cut l [47]=(top,bottom,is)) (ht:Lib.trimPrefix top [45]=size):
  Calls prog 75 #[bs l] w fun e w'=>e= .returned (.int .i64 (jek top size bottom is))∧Below w.heap.size w w':=by
 have hlt:top.length≤l.length:=by have:=(jmi (l:=l)).1;rw [hc] at this;exact this
 have hlb:bottom.length≤l.length:=by have:=(jmi (l:=l)).2;rw [hc] at this;exact this
 have hls:size.length≤l.length:=by rw [←ht];exact Nat.le_trans (jqn _ _) hlt
 have HE:=qh hE;have HL:=qh hl;have HC:=qh hc;have HT:=qh ht;have HS:=qh (show size.length≤9223372036854775807 by omega);have HSB:=qh (show bottom.length≤9223372036854775807 by omega);obtain ⟨b1,hb1⟩:∃b,Dig.plain size=b:=⟨_,rfl⟩;obtain ⟨b2,hb2⟩:∃b,(top==[45,48])=b:=⟨_,rfl⟩;obtain ⟨b4,hb4⟩:∃b,Dig.plain bottom=b:=⟨_,rfl⟩;obtain ⟨b5,hb5⟩:∃b,(bottom==[48])=b:=⟨_,rfl⟩;obtain ⟨b6,hb6⟩:∃b,(bottom==[49])=b:=⟨_,rfl⟩;have HP:=qh hb1;have HB:=qh hb4;have hbad:jcb top size bottom is=(!b1 || b2 || (is && (!b4 || b5 || b6))):=by unfold jcb;rw [hb1,hb2,hb4,hb5,hb6]
 have HBAD:=qh hbad;clear hE hl hc ht hlt hlb hls hbad hb1 hb4;by_cases hbf:(!b1 || b2 || (is && (!b4 || b5 || b6)))=true
 ·have e:jek top size bottom is=1:=by unfold jek;rw [HBAD.o,hbf];rfl
  rw [e];clear e HBAD;cases b1
  ·clear hbf;go_enter func75,ntmps75
   go_wp2_with (first
 | (go_at_call 99;(with_reducible refine mo0 (jaM HC.o (HE.o.below bi) HL.o) fun w1 hb1 hc1 hf1 _=> ?_))
 | (go_at_call 121;(with_reducible refine mo0 (jad HT.o) fun w2 hb2 hc2 hf2 _=> ?_))
 | (go_at_call 122;(with_reducible show Calls _ _ #[bs size] _ _);(with_reducible refine mo0 (jae HP.o HS.o) fun w3 hb3 hc3 hf3 _=> ?_))
 | (go_at_call 122;(with_reducible show Calls _ _ #[bs bottom] _ _);(with_reducible refine mo0 (jae HB.o HSB.o) fun w4 hb4 hc4 hf4 _=> ?_)))
   go_ret;exact ⟨by simp,bi⟩
  ·cases b2
   ·cases is
    ·cases hbf
    ·cases b4
     ·clear hbf;go_enter func75,ntmps75
      go_wp2_with (first
 | (go_at_call 99;(with_reducible refine mo0 (jaM HC.o (HE.o.below bi) HL.o) fun w1 hb1 hc1 hf1 _=> ?_))
 | (go_at_call 121;(with_reducible refine mo0 (jad HT.o) fun w2 hb2 hc2 hf2 _=> ?_))
 | (go_at_call 122;(with_reducible show Calls _ _ #[bs size] _ _);(with_reducible refine mo0 (jae HP.o HS.o) fun w3 hb3 hc3 hf3 _=> ?_))
 | (go_at_call 122;(with_reducible show Calls _ _ #[bs bottom] _ _);(with_reducible refine mo0 (jae HB.o HSB.o) fun w4 hb4 hc4 hf4 _=> ?_)))
      go_ret;exact ⟨by simp,bi⟩
     ·cases b5
      ·cases b6
       ·cases hbf
       ·clear hbf;go_enter func75,ntmps75
        go_wp2_with (first
 | (go_at_call 99;(with_reducible refine mo0 (jaM HC.o (HE.o.below bi) HL.o) fun w1 hb1 hc1 hf1 _=> ?_))
 | (go_at_call 121;(with_reducible refine mo0 (jad HT.o) fun w2 hb2 hc2 hf2 _=> ?_))
 | (go_at_call 122;(with_reducible show Calls _ _ #[bs size] _ _);(with_reducible refine mo0 (jae HP.o HS.o) fun w3 hb3 hc3 hf3 _=> ?_))
 | (go_at_call 122;(with_reducible show Calls _ _ #[bs bottom] _ _);(with_reducible refine mo0 (jae HB.o HSB.o) fun w4 hb4 hc4 hf4 _=> ?_)))
        go_ret;exact ⟨by simp,bi⟩
      ·clear hbf;go_enter func75,ntmps75
       go_wp2_with (first
 | (go_at_call 99;(with_reducible refine mo0 (jaM HC.o (HE.o.below bi) HL.o) fun w1 hb1 hc1 hf1 _=> ?_))
 | (go_at_call 121;(with_reducible refine mo0 (jad HT.o) fun w2 hb2 hc2 hf2 _=> ?_))
 | (go_at_call 122;(with_reducible show Calls _ _ #[bs size] _ _);(with_reducible refine mo0 (jae HP.o HS.o) fun w3 hb3 hc3 hf3 _=> ?_))
 | (go_at_call 122;(with_reducible show Calls _ _ #[bs bottom] _ _);(with_reducible refine mo0 (jae HB.o HSB.o) fun w4 hb4 hc4 hf4 _=> ?_)))
       go_ret;exact ⟨by simp,bi⟩
   ·clear hbf;go_enter func75,ntmps75
    go_wp2_with (first
 | (go_at_call 99;(with_reducible refine mo0 (jaM HC.o (HE.o.below bi) HL.o) fun w1 hb1 hc1 hf1 _=> ?_))
 | (go_at_call 121;(with_reducible refine mo0 (jad HT.o) fun w2 hb2 hc2 hf2 _=> ?_))
 | (go_at_call 122;(with_reducible show Calls _ _ #[bs size] _ _);(with_reducible refine mo0 (jae HP.o HS.o) fun w3 hb3 hc3 hf3 _=> ?_))
 | (go_at_call 122;(with_reducible show Calls _ _ #[bs bottom] _ _);(with_reducible refine mo0 (jae HB.o HSB.o) fun w4 hb4 hc4 hf4 _=> ?_)))
    go_ret;exact ⟨by simp,bi⟩
 ·have hbf2:(!b1 || b2 || (is && (!b4 || b5 || b6)))=false:=by simpa using hbf
  have hb1':b1=true:=by cases b1 <;> simp_all
  have hb2':b2=false:=by cases b2 <;> simp_all
  subst hb1' hb2'
  have e:jek top size bottom is=if 600 < size.length∨600 < bottom.length then 4 else if is && decide (Nat.gcd (Dig.val size) (Dig.val bottom)≠1) then 1 else 0:=by
   unfold jek;rw [HBAD.o,hbf2];rfl
  clear HBAD hbf;by_cases hs:600 < size.length
  ·rw [e,if_pos (Or.inl hs)];have q7:decide ((600:Int) < (size.length:Int))=true:=by simp;omega
   clear e hs;cases is
   ·clear hbf2;go_enter func75,ntmps75
    go_wp2_with (first
 | (go_at_call 99;(with_reducible refine mo0 (jaM HC.o (HE.o.below bi) HL.o) fun w1 hb1 hc1 hf1 _=> ?_))
 | (go_at_call 121;(with_reducible refine mo0 (jad HT.o) fun w2 hb2 hc2 hf2 _=> ?_))
 | (go_at_call 122;(with_reducible show Calls _ _ #[bs size] _ _);(with_reducible refine mo0 (jae HP.o HS.o) fun w3 hb3 hc3 hf3 _=> ?_))
 | (go_at_call 122;(with_reducible show Calls _ _ #[bs bottom] _ _);(with_reducible refine mo0 (jae HB.o HSB.o) fun w4 hb4 hc4 hf4 _=> ?_)))
    go_ret;exact ⟨by simp,bi⟩
   ·simp only [Bool.not_true,Bool.false_or,Bool.true_and,Bool.or_eq_false_iff,Bool.not_eq_false'] at hbf2;obtain ⟨⟨rfl,rfl⟩,rfl⟩:=hbf2;go_enter func75,ntmps75
    go_wp2_with (first
 | (go_at_call 99;(with_reducible refine mo0 (jaM HC.o (HE.o.below bi) HL.o) fun w1 hb1 hc1 hf1 _=> ?_))
 | (go_at_call 121;(with_reducible refine mo0 (jad HT.o) fun w2 hb2 hc2 hf2 _=> ?_))
 | (go_at_call 122;(with_reducible show Calls _ _ #[bs size] _ _);(with_reducible refine mo0 (jae HP.o HS.o) fun w3 hb3 hc3 hf3 _=> ?_))
 | (go_at_call 122;(with_reducible show Calls _ _ #[bs bottom] _ _);(with_reducible refine mo0 (jae HB.o HSB.o) fun w4 hb4 hc4 hf4 _=> ?_)))
    go_ret;exact ⟨by simp,bi⟩
  ·have q7:decide ((600:Int) < (size.length:Int))=false:=by simp;omega
   by_cases hbt:600 < bottom.length
   ·rw [e,if_pos (Or.inr hbt)];have q8:decide ((600:Int) < (bottom.length:Int))=true:=by simp;omega
    clear e hs hbt;cases is
    ·clear hbf2;go_enter func75,ntmps75
     go_wp2_with (first
 | (go_at_call 99;(with_reducible refine mo0 (jaM HC.o (HE.o.below bi) HL.o) fun w1 hb1 hc1 hf1 _=> ?_))
 | (go_at_call 121;(with_reducible refine mo0 (jad HT.o) fun w2 hb2 hc2 hf2 _=> ?_))
 | (go_at_call 122;(with_reducible show Calls _ _ #[bs size] _ _);(with_reducible refine mo0 (jae HP.o HS.o) fun w3 hb3 hc3 hf3 _=> ?_))
 | (go_at_call 122;(with_reducible show Calls _ _ #[bs bottom] _ _);(with_reducible refine mo0 (jae HB.o HSB.o) fun w4 hb4 hc4 hf4 _=> ?_)))
     go_ret;exact ⟨by simp,bi⟩
    ·simp only [Bool.not_true,Bool.false_or,Bool.true_and,Bool.or_eq_false_iff,Bool.not_eq_false'] at hbf2;obtain ⟨⟨rfl,rfl⟩,rfl⟩:=hbf2;go_enter func75,ntmps75
     go_wp2_with (first
 | (go_at_call 99;(with_reducible refine mo0 (jaM HC.o (HE.o.below bi) HL.o) fun w1 hb1 hc1 hf1 _=> ?_))
 | (go_at_call 121;(with_reducible refine mo0 (jad HT.o) fun w2 hb2 hc2 hf2 _=> ?_))
 | (go_at_call 122;(with_reducible show Calls _ _ #[bs size] _ _);(with_reducible refine mo0 (jae HP.o HS.o) fun w3 hb3 hc3 hf3 _=> ?_))
 | (go_at_call 122;(with_reducible show Calls _ _ #[bs bottom] _ _);(with_reducible refine mo0 (jae HB.o HSB.o) fun w4 hb4 hc4 hf4 _=> ?_)))
     go_ret;exact ⟨by simp,bi⟩
   ·have q8:decide ((600:Int) < (bottom.length:Int))=false:=by simp;omega
    rw [e,if_neg (by omega)];clear e;cases is
    ·clear hbf2;go_enter func75,ntmps75
     go_wp2_with (first
 | (go_at_call 99;(with_reducible refine mo0 (jaM HC.o (HE.o.below bi) HL.o) fun w1 hb1 hc1 hf1 _=> ?_))
 | (go_at_call 121;(with_reducible refine mo0 (jad HT.o) fun w2 hb2 hc2 hf2 _=> ?_))
 | (go_at_call 122;(with_reducible show Calls _ _ #[bs size] _ _);(with_reducible refine mo0 (jae HP.o HS.o) fun w3 hb3 hc3 hf3 _=> ?_))
 | (go_at_call 122;(with_reducible show Calls _ _ #[bs bottom] _ _);(with_reducible refine mo0 (jae HB.o HSB.o) fun w4 hb4 hc4 hf4 _=> ?_)))
     go_ret;exact ⟨by simp,bi⟩
    ·simp only [Bool.not_true,Bool.false_or,Bool.true_and,Bool.or_eq_false_iff,Bool.not_eq_false'] at hbf2;obtain ⟨⟨rfl,rfl⟩,rfl⟩:=hbf2;have D1:=jg4 HP.o;have D2:=jg4 HB.o;have HR1:=qh (fun W=>jfa (w:=W) (jec D1) (jd2 D1) D1 (by omega));have HR2:=qh (fun W=>jfa (w:=W) (jec D2) (jd2 D2) D2 (by omega));obtain ⟨x,hx⟩:∃x,Dig.val size=x:=⟨_,rfl⟩;obtain ⟨y,hy⟩:∃y,Dig.val bottom=y:=⟨_,rfl⟩;obtain ⟨g,hg⟩:∃g,Nat.gcd x y=g:=⟨_,rfl⟩;have L1:Hd (Lim (sg false x)):=qh (jdz (n:=size.length) (by rw [←hx];exact Nat.le_of_lt (Dig.val_lt size D1)) (by omega));have L2:Hd (Lim (sg false y)):=qh (jdz (n:=bottom.length) (by rw [←hy];exact Nat.le_of_lt (Dig.val_lt bottom D2)) (by omega));rw [hx] at HR1 ⊢;rw [hy] at HR2 ⊢;simp only [hg];have HG:Hd (Nat.gcd (sg false x).natAbs (sg false y).natAbs=g):=qh (by rw [jd9,jd9];exact hg);clear D1 D2 hx hy hg hs hbt;go_enter func75,ntmps75
     go_wp2_with (first
      | (go_at_call 99;(with_reducible refine mo0 (jaM HC.o (HE.o.below bi) HL.o) fun w1 hb1 hc1 hf1 _=> ?_))
      | (go_at_call 121;(with_reducible refine mo0 (jad HT.o) fun w2 hb2 hc2 hf2 _=> ?_))
      | (go_at_call 122;(with_reducible show Calls _ _ #[bs size] _ _);(with_reducible refine mo0 (jae HP.o HS.o) fun w3 hb3 hc3 hf3 _=> ?_))
      | (go_at_call 122;(with_reducible show Calls _ _ #[bs bottom] _ _);(with_reducible refine mo0 (jae HB.o HSB.o) fun w4 hb4 hc4 hf4 _=> ?_))
      | (go_at_call 101;(with_reducible show Calls _ _ #[bs size] _ _);(with_reducible refine mi0 (HR1.o _) fun w5 s5 A5 n5 c5 hr5 hb5 hc5 hf5 _=> ?_))
      | (go_at_call 101;(with_reducible show Calls _ _ #[bs bottom] _ _);(with_reducible refine mi0 (HR2.o _) fun w6 s6 A6 n6 c6 hr6 hb6 hc6 hf6 _=> ?_))
      | ((go_at_call 123;(with_reducible refine mi0 (jd1 HG.o (by with_reducible repeat first|assumption|apply rZ|refine rP ?_ rfl (by simp [go_sem,hc6])) (by with_reducible repeat first|assumption|apply rZ|refine rP ?_ rfl (by simp [go_sem,hc6])) L1.o L2.o) fun w7 s7 A7 n7 c7 hr7 hb7 hc7 hf7 _=> ?_));refine Hd.out ?_))
     have ho:=jk3 hr7;rcases A7 with _|a7
     ·obtain ⟨rfl,rfl,rfl,_⟩:=hr7.none_;by_cases h1:g=1
      ·subst h1;refine qh ?_;go_wp2_with (go_at_call 97;(with_reducible refine mo0 (jcE rfl) fun w8 hb8 hc8 hf8 _=> ?_))
       go_ret;exact ⟨by simp,bi⟩
      ·have q9:(((g:Nat):Int) != 1)=true:=by rw [bne_iff_ne];omega
       have H1:=qh h1;clear ho h1;refine qh ?_;go_wp2_with (go_at_call 97;(with_reducible refine mo0 (jcE rfl) fun w8 hb8 hc8 hf8 _=> ?_))
       all_goals
        (first
          | exact absurd (by assumption) H1.o
          | (go_ret;exact ⟨by simp [H1.o],bi⟩))
     ·have h1:g≠1:=by
       intro h;subst h;simp at ho
      have H1:=qh h1;clear ho h1;refine qh ?_;go_wp2_with (go_at_call 97;(with_reducible refine mo0 (jcE rfl) fun w8 hb8 hc8 hf8 _=> ?_))
      all_goals
       (first
         | exact absurd (by assumption) H1.o
         | (go_ret;exact ⟨by simp [H1.o],bi⟩))
theorem jnZ (hE:Env w) (hl:l.length < 4294967281):Calls prog 75 #[bs l] w fun e w'=>e= .returned (.int .i64 (chk l))∧Below w.heap.size w w':=jmj hE hl rfl rfl
end
end Go.Proofs.YtfagcpcikjlboaaGreatDoor
namespace Go.Proofs.YtfagcpcikjlboaaGreatDoor

structure IsNum (l:List UInt8) (x:Rat):Prop where
 eq:l=tq x
 num:(Go.Lib.decDigits x.num.natAbs).length≤600
 den:(Go.Lib.decDigits x.den).length≤600
theorem IsNum.dig {l:List UInt8} {x:Rat} (h:IsNum l x):DigQ x:=⟨Nat.le_trans h.num (by omega),Nat.le_trans h.den (by omega)⟩

theorem jf7 {l:List UInt8}:Go.Lib.hasPrefix l [45]=true↔∃m,l=45::m:=by
 cases l with
 | nil=>simp [Go.Lib.hasPrefix,List.isPrefixOf]
 | cons c r=>
   simp only [Go.Lib.hasPrefix,List.isPrefixOf,Bool.and_true,beq_iff_eq];constructor
   ·intro h;exact ⟨r,by rw [←h]⟩
   ·rintro ⟨m,h⟩;injection h with h1 h2;exact h1.symm
theorem jqM {l size:List UInt8} (ht:Go.Lib.trimPrefix l [45]=size) (hp:Dig.plain size=true) (h0:l≠[45,48]):
  ∃z:Int,l=Go.Lib.itoa z∧z.natAbs=Dig.val size∧Go.Lib.decDigits z.natAbs=size:=by
 have hv:=Dig.digits_val hp;by_cases hd:Go.Lib.hasPrefix l [45]=true
 ·obtain ⟨m,rfl⟩:=jf7.1 hd;have hm:m=size:=by simpa [Go.Lib.trimPrefix,hd] using ht
  subst hm
  have hpos:0 < Dig.val m:=by
   rcases Nat.eq_zero_or_pos (Dig.val m) with h|h
   ·rw [h] at hv;have:m=[48]:=by rw [←hv];unfold Go.Lib.decDigits;rfl
    exact absurd (by rw [this]) h0
   ·exact h
  refine ⟨-(Dig.val m:Int), ?_,by simp,by simpa using hv⟩;unfold Go.Lib.itoa;rw [if_pos (by omega)];simp [hv]
 ·have hm:l=size:=by
   rw [←ht];unfold Go.Lib.trimPrefix;rw [if_neg hd]
  subst hm;refine ⟨(Dig.val l:Int), ?_,by simp,by simpa using hv⟩;rw [jdn,hv]
theorem jmE {b:List UInt8} (hp:Dig.plain b=true) (h0:b≠[48]) (h1:b≠[49]):2≤Dig.val b:=by
 have hv:=Dig.digits_val hp;rcases Nat.lt_or_ge (Dig.val b) 2 with h|h
 ·have:Dig.val b=0∨Dig.val b=1:=by omega
  rcases this with h2|h2
  ·rw [h2] at hv;exact absurd (by rw [←hv];unfold Go.Lib.decDigits;rfl) h0
  ·rw [h2] at hv;exact absurd (by rw [←hv];unfold Go.Lib.decDigits;rfl) h1
 ·exact h
theorem jfK {l top size bottom:List UInt8} {is:Bool} (hc:Go.Lib.cut l [47]=(top,bottom,is)) (ht:Go.Lib.trimPrefix top [45]=size):chk l=jek top size bottom is:=by
 unfold chk;rw [hc,ht]
theorem jcq {top size bottom:List UInt8} {is:Bool}:jek top size bottom is=0↔jcb top size bottom is=false∧size.length≤600∧bottom.length≤600∧(is=true→Nat.gcd (Dig.val size) (Dig.val bottom)=1):=by
 unfold jek;by_cases h1:jcb top size bottom is=true
 ·rw [if_pos h1];simp [h1]
 ·rw [if_neg h1];by_cases h2:600 < size.length∨600 < bottom.length
  ·rw [if_pos h2];constructor
   ·intro h;cases h
   ·intro h;omega
  ·rw [if_neg h2];cases is
   ·simp at h1 h2 ⊢;exact ⟨h1,h2.1,h2.2⟩
   ·by_cases h3:Nat.gcd (Dig.val size) (Dig.val bottom)=1
    ·simp [h3] at h1 h2 ⊢;exact ⟨h1,h2.1,h2.2⟩
    ·simp [h3]
theorem jba {top size bottom:List UInt8} {is:Bool}:jcb top size bottom is=false↔Dig.plain size=true∧top≠[45,48]∧(is=true→Dig.plain bottom=true∧bottom≠[48]∧bottom≠[49]):=by
 unfold jcb;cases is <;> simp [and_assoc]
theorem jtz (z:Int) (d:Nat) (hd:d≠0) (hg:Nat.gcd z.natAbs d=1):∃x:Rat,x.num=z∧x.den=d:=⟨⟨z,d,hd,hg⟩,rfl,rfl⟩

theorem jjL {l:List UInt8}:chk l=0↔∃x,IsNum l x:=by
 constructor
 ·intro h;rcases jc1 47 l with hs|⟨a,b,rfl,hs⟩
  ·rw [jfK (jcD hs) rfl,jcq,jba] at h;obtain ⟨⟨hp,h0,_⟩,h1,_,_⟩:=h;obtain ⟨z,rfl,h2,h3⟩:=jqM rfl hp h0;refine ⟨(z:Rat), ?_, ?_, ?_⟩
   ·unfold tq;rw [if_pos (by rfl)];rfl
   ·show (Go.Lib.decDigits z.natAbs).length≤600
    rw [h3];exact h1
   ·show (Go.Lib.decDigits 1).length≤600
    unfold Go.Lib.decDigits;decide
  ·rw [jfK (jdu b hs) rfl,jcq,jba] at h;obtain ⟨⟨hp,h0,hb⟩,h1,h4,hg⟩:=h;obtain ⟨hpb,hb0,hb1⟩:=hb rfl;have h2b:=jmE hpb hb0 hb1;obtain ⟨z,hz,h2,h3⟩:=jqM rfl hp h0;obtain ⟨x,hx1,hx2⟩:=jtz z (Dig.val b) (by omega) (by rw [h2];exact hg rfl);refine ⟨x, ?_, ?_, ?_⟩
   ·unfold tq;rw [if_neg (by omega),hx1,hx2,Dig.digits_val hpb,←hz]
   ·rw [hx1,h3];exact h1
   ·rw [hx2,Dig.digits_val hpb];exact h4
 ·rintro ⟨x,h⟩
  have hi:=jd6 x.num
  have hne:Go.Lib.itoa x.num≠[45,48]:=by
   intro e;have h2:=hi.2;have h1:=hi.1;rw [e] at h1 h2;have h3:Go.Lib.decDigits x.num.natAbs=[48]:=by rw [←h2];rfl
   have h4:=Dig.val_digits x.num.natAbs;rw [h3] at h4;have h5:x.num.natAbs=0:=by rw [←h4];rfl
   have h6:decide (x.num < 0)=true:=by rw [←h1];rfl
   simp at h6;omega
  by_cases hd:x.den=1
  ·have e:l=Go.Lib.itoa x.num:=by rw [h.eq];unfold tq;rw [if_pos hd]
   rw [e,jfK (jcD (jbg _)) hi.2,jcq,jba];exact ⟨⟨Dig.plain_digits _,hne,fun h=>by cases h⟩,h.num,by simp,fun h=>by cases h⟩
  ·have e:l=Go.Lib.itoa x.num++47::Go.Lib.decDigits x.den:=by rw [h.eq];unfold tq;rw [if_neg hd]
   rw [e,jfK (jdu _ (jbg _)) hi.2,jcq,jba];have hx:=x.den_pos;refine ⟨⟨Dig.plain_digits _,hne,fun _=>⟨Dig.plain_digits _, ?_, ?_⟩⟩,h.num,h.den,fun _=> ?_⟩
   ·intro e2;have:=Dig.val_digits x.den;rw [e2] at this;have h5:x.den=0:=by rw [←this];rfl
    omega
   ·intro e2;have:=Dig.val_digits x.den;rw [e2] at this;exact hd (by rw [←this];rfl)
   ·rw [Dig.val_digits,Dig.val_digits];exact x.reduced
theorem joF {a b:Int} (h:Go.Lib.itoa a=Go.Lib.itoa b):a=b:=by
 have h1:=jd6 a;have h2:=jd6 b;rw [h] at h1;have h3:decide (a < 0)=decide (b < 0):=by rw [←h1.1,h2.1]
 have h4:=Dig.digits_inj (h1.2.symm.trans h2.2);rw [decide_eq_decide] at h3;omega
theorem jtt {x y:Rat} (h:tq x=tq y):x=y:=by
 have hc:∀x:Rat,Go.Lib.cut (tq x) [47]=(Go.Lib.itoa x.num,if x.den=1 then [] else Go.Lib.decDigits x.den,decide (x.den≠1)):=fun x=>by
  by_cases hd:x.den=1
  ·unfold tq;rw [if_pos hd,if_pos hd,jcD (jbg _)];simp [hd]
  ·unfold tq;rw [if_neg hd,if_neg hd,jdu _ (jbg _)];simp [hd]
 have h1:=hc x;rw [h,hc y] at h1;simp only [Prod.mk.injEq] at h1;obtain ⟨h2,h3,h4⟩:=h1;apply Rat.ext (joF h2.symm);rw [decide_eq_decide] at h4;by_cases hd:x.den=1
 ·have hy:y.den=1:=by
   rcases Classical.em (y.den=1) with h5|h5
   ·exact h5
   ·exact absurd hd (h4.1 h5)
  rw [hd,hy]
 ·have hy:y.den≠1:=h4.2 hd;rw [if_neg hd,if_neg hy] at h3;exact (Dig.digits_inj h3).symm
theorem IsNum.inj {l:List UInt8} {x y:Rat} (h:IsNum l x) (h':IsNum l y):x=y:=jtt (h.eq.symm.trans h'.eq)
end Go.Proofs.YtfagcpcikjlboaaGreatDoor
namespace Go.Proofs.YtfagcpcikjlboaaGreatDoor
open Go Go.RowKit Go.Proofs.Tryz

theorem jaz {w:World} {l:List UInt8} {x:Rat} (h:IsNum l x) (hE:Env w):Calls prog 51 #[bs l] w (jaa x w):=by
 rw [h.eq];exact jqe hE h.dig
theorem StrQ.small {x:Rat} (h1: -9223372036854775808 < x.num) (h2:x.num < 9223372036854775808) (h3:x.den < 9223372036854775808):StrQ x:=
 ⟨jeG ⟨by omega,by omega⟩ (by omega),jeG ⟨by omega,by omega⟩ (by omega)⟩
theorem jAX {w:World} {s t:Int} {A B:Option Addr} {n c m d:Nat} {x:Rat} {l:List UInt8} {k:Int} (hl:jcF x=l) (hk:jbq x=k) (h:RepF w s A n c t B m d x) (hE:Env w) (hS:StrQ x):Calls prog 156 #[fv s A n c t B m d] w fun e w'=>e= .returned (.tuple #[bs l, .int .i64 k])∧Below w.heap.size w w':=by
 subst hl hk;exact jBB h hE hS
section
variable {w:World}
end
end Go.Proofs.YtfagcpcikjlboaaGreatDoor
