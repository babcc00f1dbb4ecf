/- Parts. -/
import Derived.Test.YtfagcpcikjlboaaGreatDoorDaG
import Derived.Test.YtfagcpcikjlboaaGreatDoorKpG
set_option linter.all false
set_option maxRecDepth 100000
set_option maxHeartbeats 8000000
namespace Go.Proofs.YtfagcpcikjlboaaGreatDoor
open Go Go.RowKit Go.Proofs.Tryz

theorem Sv.one (w:World) (t:TypeId) (k:List UInt8):Sv (w.alloc (.cells #[bs k] t)) (some ⟨w.heap.size,0,none⟩) 1 [k]:=
 ⟨rfl,fun _=>⟨w.heap.size,0,rfl,by simp,fun j hj=>by
   obtain rfl:j=0:=by omega
   simp⟩⟩
section
variable {w:World} {A:Option Addr} {n c:Nat} {ls:List (List UInt8)}
theorem jmp {R:Int} (hE:Env w) (h:Sv w A n ls) (hn:n≤100000) (hl:∀l∈ls,l.length < 4294967281) (hR:jar chk ls=R):
  Calls prog 69 #[.slice A n c] w fun e w'=>e= .returned (.int .i64 R)∧Below w.heap.size w w':=by
 have HR:=qh hR;have H:=qh h;have HN:=qh hn;have HF:=qh (fun l (h:l∈ls) W (hb:Below w.heap.size w W)=>jln rfl (hE.below hb) (hl l h));clear hR h hn hE hl;go_enter func69,ntmps69;go_wp2
 go_loopw [8] (fun u wr=>∃(i:Nat),u= .int .i64 (i:Int)∧Below w.heap.size w wr∧i≤n∧jar chk (ls.drop i)=R) (fun u _=>n - (intOf u).toNat)
 case atStart=>exact ⟨0,rfl,bi,by omega,HR.o⟩
 case round=>
  obtain ⟨i,rfl,hb,hin,hc⟩:=hrel;have _:=bm hb;by_cases hi:i < n
  ·have q0:decide ((i:Int) < (n:Int))=true:=by simp;exact hi
   obtain ⟨b,o,rfl,hbl,hcell⟩:=(H.o.below hb).at_ (by omega);have hx:=hcell i hi;have hil:i < ls.length:=by rw [H.o.len];exact hi
   rw [jd5 (d:=[]) hil] at hc;have hmem:ls.getD i []∈ls:=by rw [List.getD_eq_getElem?_getD,List.getElem?_eq_getElem hil];exact List.getElem_mem hil
   obtain ⟨x,hxx⟩:∃x,ls.getD i []=x:=⟨_,rfl⟩;rw [hxx] at hx hc hmem;have HX:=qh (HF.o x hmem wr hb);have hnn:=HN.o;have HI:=qh hi;clear hcell hmem hil hxx;by_cases h0:chk x=0
   ·have HC:Hd (jar chk (ls.drop (i+1))=R):=qh (by rw [←hc,jf3 h0]);rw [h0] at HX;clear hc h0 hi;go_wp2_with (go_at_call 75;(with_reducible refine mo0 (HX.o) fun w1 hb1 hc1 hf1 _=> ?_))
    exact ⟨⟨i+1,by simp,bi,HI.o,HC.o⟩,by have:=HI.o;simp [intOf];omega⟩
   ·have hR:R=chk x:=by rw [←hc,jed h0]
    subst hR;obtain ⟨y,hy⟩:∃y,chk x=y:=⟨_,rfl⟩;rw [hy] at HX;have q1:(y != 0)=true:=by rw [bne_iff_ne,←hy];exact h0
    have HY:=qh hy;clear hc h0 hi hy HR;go_wp2_with (go_at_call 75;(with_reducible refine mo0 (HX.o) fun w1 hb1 hc1 hf1 _=> ?_))
    go_ret;exact ⟨by rw [HY.o];rfl,bi⟩
  ·have q0:decide (i < n)=false:=by simp;omega
   rw [List.drop_eq_nil_of_le (by rw [H.o.len];omega)] at hc;have hR:R=0:=by rw [←hc];rfl
   subst hR;clear hc hi HR;go_wp2;go_ret;exact ⟨rfl,bi⟩
end
section
variable {s t:Int} {A B:Option Addr} {n c m d:Nat} {w:World} {x:Rat}
theorem jsn {p:Nat} {b:Bool} (h:RepF w s A n c t B m d x) (hs:Sz p x) (hp:p+1 < 100000) (hb:decide (0≤x∧x < 100)=b):Calls prog 135 #[fv s A n c t B m d] w fun e w'=>e= .returned (.bool b)∧Below w.heap.size w w':=by
 have HA:=qh h;have HS:=qh hs;have HP:=qh hp;have HF:=qh (show ((100:Int):Rat)=100 from rfl);have HR:=qh (show R64 100 by constructor <;> decide);have H2:=qh (jej HR.o);rw [HF.o] at H2;obtain ⟨k,hk⟩:∃k,sgn x.num=k:=⟨_,rfl⟩;obtain ⟨j,hj⟩:∃j,Rq.cmpQ x 100=j:=⟨_,rfl⟩;have HK:=qh hk;have HJ:=qh hj;by_cases h0:x < 0
 ·obtain rfl:false=b:=by rw [←hb,eq_comm,decide_eq_false_iff_not];exact fun e=>Rat.not_lt.2 e.1 h0
  obtain rfl: -1=k:=by rw [←hk];unfold sgn;rw [if_pos (jgN.2 h0)]
  clear h hs hp hb hk hj h0;go_enter func135,ntmps135;go_upto_region 1 with (fail)
  refine ja1 (fun w'=>Below (w.alloc (.cells #[.int .i64 s, .slice A n c, .int .i64 t, .slice B m d] 70)).heap.size (w.alloc (.cells #[.int .i64 s, .slice A n c, .int .i64 t, .slice B m d] 70)) w') [] (by kernel_rfl) ?_;refine tb 0 (fv s A n c t B m d) [1] rfl (by kernel_rfl) pk rfl (by intros;go_simp) bq0 ?_;simp only [ppq];refine rd1 1 (by kernel_rfl) rfl (fun K hK=> ?_);go_simp;go_wp2_with (go_at_call 68;(with_reducible refine mo0 (jg2 HK.o (HA.o.below bi)) fun w3 hb3 hc3 hf3 _=> ?_))
  have sS3:=qh (bst bq0 hb3);refine hK.out _ _ (fun _=>sS3.o) ?_;clear hK K;refine rd1 2 (by kernel_rfl) rfl (fun K hK=> ?_);go_simp;refine hK.out _ _ (fun _=>bi) ?_;clear hK K;refine rd1 3 (by kernel_rfl) rfl (fun K hK=> ?_);go_simp;refine hK.out _ _ (fun _=>bi) ?_;clear hK K;refine ts 4 [] rfl (by kernel_rfl) pk (by rfl) sS3.o ?_;simp only [ppq];refine rd1 5 (by kernel_rfl) rfl (fun K hK=> ?_);go_simp;refine hK.out _ _ (fun _=>bi) ?_;clear hK K;refine rd1 6 (by kernel_rfl) rfl (fun K hK=> ?_);go_simp;refine hK.out _ _ (fun _=>bi) ?_;clear hK K;refine rd1 7 (by kernel_rfl) rfl (fun K hK=> ?_);go_simp;refine hK.out _ _ (fun _=>bi) ?_;clear hK K;refine rd1 8 (by kernel_rfl) rfl (fun K hK=> ?_);go_simp;refine hK.out _ _ (fun _=>bi) ?_;clear hK K;refine rd1 9 (by kernel_rfl) rfl (fun K hK=> ?_);go_simp;refine hK.out _ _ (fun _=>bi) ?_;clear hK K;refine ja2 (by kernel_rfl) ?_ _;go_wp2;go_ret;exact ⟨rfl,bi⟩
 ·have hk0:0≤k:=by
   rw [←hk];unfold sgn;have:¬x.num < 0:=fun h=>h0 (jgN.1 h)
   rw [if_neg this];split <;> omega
  have q1:decide (0≤k)=true:=by simpa using hk0
  have q2:decide (j < 0)=b:=by
   rw [←hb,decide_eq_decide,←hj];exact ⟨fun e=>⟨Rat.not_lt.1 h0,Rq.cmp_neg.1 e⟩,fun e=>Rq.cmp_neg.2 e.2⟩
  clear h hs hp hb hk hj h0 hk0;go_enter func135,ntmps135;go_upto_region 1 with (fail)
  refine ja1 (fun w'=>Below (w.alloc (.cells #[.int .i64 s, .slice A n c, .int .i64 t, .slice B m d] 70)).heap.size (w.alloc (.cells #[.int .i64 s, .slice A n c, .int .i64 t, .slice B m d] 70)) w') [] (by kernel_rfl) ?_;refine tb 0 (fv s A n c t B m d) [1] rfl (by kernel_rfl) pk rfl (by intros;go_simp) bq0 ?_;simp only [ppq];refine rd1 1 (by kernel_rfl) rfl (fun K hK=> ?_);go_simp;go_wp2_with (go_at_call 68;(with_reducible refine mo0 (jg2 HK.o (HA.o.below bi)) fun w3 hb3 hc3 hf3 _=> ?_))
  have sS3:=qh (bst bq0 hb3);refine hK.out _ _ (fun _=>sS3.o) ?_;clear hK K;refine rd1 2 (by kernel_rfl) rfl (fun K hK=> ?_);go_simp;refine hK.out _ _ (fun _=>bi) ?_;clear hK K;refine rd1 3 (by kernel_rfl) rfl (fun K hK=> ?_);go_simp;refine hK.out _ _ (fun _=>bi) ?_;clear hK K;have hy3:w.heap.size < w3.heap.size:=by have:=hb3.size;simp at this;omega
  refine tb 4 (fv s A n c t B m d) [6] rfl (by kernel_rfl) pk rfl (by intros;go_simp) sS3.o ?_;simp only [ppq];refine rd1 5 (by kernel_rfl) rfl (fun K hK=> ?_);go_simp;go_wp2_with (go_at_call 67;(with_reducible refine mf0 (jes HF.o HR.o) fun w4 s4 A4 n4 c4 t4 B4 m4 d4 hr4 hq4 hb4 hc4 hf4 _=> ?_))
  have sS4:=qh (bst sS3.o hb4);refine hK.out _ _ (fun _=>sS4.o) ?_;clear hK K;refine rd1 6 (by kernel_rfl) rfl (fun K hK=> ?_);go_simp;go_wp2_with (go_at_call 76;(with_reducible refine mo0 (jd7 p 1 HJ.o (HA.o.below bi) ⟨hr4,hq4⟩ HS.o H2.o HP.o) fun w5 hb5 hc5 hf5 _=> ?_))
  have sS5:=qh (bst sS4.o hb5);refine hK.out _ _ (fun _=>sS5.o) ?_;clear hK K;refine rd1 7 (by kernel_rfl) rfl (fun K hK=> ?_);go_simp;refine hK.out _ _ (fun _=>bi) ?_;clear hK K;refine rd1 8 (by kernel_rfl) rfl (fun K hK=> ?_);go_simp;refine hK.out _ _ (fun _=>bi) ?_;clear hK K;refine rd1 9 (by kernel_rfl) rfl (fun K hK=> ?_);go_simp;refine hK.out _ _ (fun _=>bi) ?_;clear hK K;refine ja2 (by kernel_rfl) ?_ _;cases b <;>
  ·go_wp2;go_ret;exact ⟨rfl,bi⟩
theorem jeU {p:Nat} {z:Rat} (hz:100 - x=z) (h:RepF w s A n c t B m d x) (hs:Sz p x) (hp:p+2 < 100000):Calls prog 94 #[fv s A n c t B m d] w (jaa z w):=by
 have HA:=qh h;have HS:=qh hs;have HP:=qh hp;have HF:=qh (show ((100:Int):Rat)=100 from rfl);have HR:=qh (show R64 100 by constructor <;> decide);have H2:=qh (jej HR.o);rw [HF.o] at H2;have HZ:=qh hz;clear h hs hp hz;go_enter func94,ntmps94;go_upto_region 1 with (fail)
 refine ja1 (fun w'=>Below ((w.alloc (.cells #[.int .i64 s, .slice A n c, .int .i64 t, .slice B m d] 70)).alloc (.cells #[.int .i64 0, .slice none 0 0, .int .i64 0, .slice none 0 0] 70)).heap.size ((w.alloc (.cells #[.int .i64 s, .slice A n c, .int .i64 t, .slice B m d] 70)).alloc (.cells #[.int .i64 0, .slice none 0 0, .int .i64 0, .slice none 0 0] 70)) w') [3] (by kernel_rfl) ?_;refine tb 1 (fv s A n c t B m d) [] rfl (by kernel_rfl) pk rfl (by intros;go_simp) bq0 ?_;simp only [ppq];refine rd1 0 (by kernel_rfl) rfl (fun K hK=> ?_);go_simp;go_wp2_with (go_at_call 67;(with_reducible refine mf2 w (jes HF.o HR.o) (by go_size) fun w1 s1 A1 n1 c1 t1 B1 m1 d1 hr1 hq1 hb1 hc1 hf1 z1_0 z1_1 _=> ?_))
 have sS1:=qh (bst bq0 hb1);refine hK.out _ _ (fun _=>sS1.o) ?_;clear hK K;refine rd1 2 (by kernel_rfl) rfl (fun K hK=> ?_);go_simp;go_wp2_with (go_at_call 98;(with_reducible refine mf2 w (jeP 1 p HZ.o ⟨hr1,hq1⟩ (HA.o.below bi) H2.o HS.o (by have:=HP.o;omega)) (by go_size) fun w2 s2 A2 n2 c2 t2 B2 m2 d2 hr2 hq2 hb2 hc2 hf2 z2_0 z2_1 _=> ?_))
 have sS2:=qh (bst sS1.o hb2);refine hK.out _ _ (fun _=>sS2.o) ?_;clear hK K;refine rd1 3 (by kernel_rfl) rfl (fun K hK=> ?_);go_simp;refine hK.out _ _ (fun h=>(h (by decide)).elim) ?_;clear hK K;refine ja2 (by kernel_rfl) ?_ _;go_wp2;exact bodyPost_ret (v:= .agg #[.int .i64 (s2), .slice (A2) (n2) (c2), .int .i64 (t2), .slice (B2) (m2) (d2)]) (by simp [results,results94,go_sem,hc2,z1_1,hc1,z2_1]) rfl (jan rfl (by constructor <;> (with_reducible repeat first|assumption|apply rZ|refine rP ?_ rfl (by simp [go_sem,hc2,z1_1,hc1,z2_1]))) bi)
end
section
variable {w:World} {l a b:List UInt8} {mass:Int}
theorem jbI {k:Int} (hE:Env w) (hl:l.length < 4294967281) (hk:mst l=k):Calls prog 93 #[bs l] w fun e w'=>e= .returned (.int .i64 k)∧Below w.heap.size w w':=by
 have HE:=qh hE;obtain ⟨k0,hk0⟩:∃k,chk l=k:=⟨_,rfl⟩
 have HC:Hd (∀W (A:Option Addr) (n c:Nat),Below w.heap.size w W→Sv W A n [l]→n≤100000→Calls prog 69 #[.slice A n c] W fun e w'=>e= .returned (.int .i64 k0)∧Below W.heap.size W w'):=qh (fun W A n c hb hs hn=>
  jmp (hE.below hb) hs hn (fun x hx=>List.mem_singleton.1 hx ▸ hl) (by rw [←hk0];unfold jar jar;split <;> simp_all))
 unfold mst at hk;by_cases h0:k0=0
 ·subst h0;rw [if_pos hk0] at hk;have HX:=qh (jjb hk0);obtain ⟨x,hx⟩:∃x,numQ l=x:=⟨_,rfl⟩;rw [hx] at HX hk;obtain ⟨b,hb⟩:∃b,decide (0≤x∧x < 100)=b:=⟨_,rfl⟩;have HB:=qh hb;have HZ:=qh HX.o.sz
  have HW:Hd ((if !b then (3:Int) else 0)=k):=qh (by
   rw [←hk,←hb];by_cases q:x < 0∨100≤x
   ·rw [if_pos q,decide_eq_false (fun e=>q.elim (fun h=>Rat.not_lt.2 e.1 h) (fun h=>Rat.not_lt.2 h e.2))];rfl
   ·rw [if_neg q,decide_eq_true ⟨Rat.not_lt.1 fun h=>q (.inl h),Rat.not_le.1 fun h=>q (.inr h)⟩];rfl)
  clear hE hl hk hk0 hx hb;go_enter func93,ntmps93;go_wp2_with (first|(go_at_call 69;(with_reducible refine mo0 (HC.o _ _ _ _ bi (Sv.one w _ l) (by omega)) fun w1 hb1 hc1 hf1 _=> ?_))|(go_at_call 51;(with_reducible refine mf0 (jaz HX.o (HE.o.below bi)) fun w2 s2 A2 n2 c2 t2 B2 m2 d2 hr2 hq2 hb2 hc2 hf2 _=> ?_))|(go_at_call 135;(with_reducible refine mo0 (jsn ⟨hr2,hq2⟩ HZ.o (by omega) HB.o) fun w3 hb3 hc3 hf3 _=> ?_))|(go_at_call 21;(with_reducible refine mo0 (jap HW.o) fun w4 hb4 hc4 hf4 _=> ?_)))
  go_ret;exact ⟨rfl,bi⟩
 ·rw [if_neg (by rw [hk0];exact h0),hk0] at hk;subst hk;have q1:(k0 != 0)=true:=by rw [bne_iff_ne];exact h0
  clear hE hl hk0 h0;go_enter func93,ntmps93;go_wp2_with (go_at_call 69;(with_reducible refine mo0 (HC.o _ _ _ _ bi (Sv.one w _ l) (by omega)) fun w1 hb1 hc1 hf1 _=> ?_))
  go_ret;exact ⟨rfl,bi⟩
def jbr (m:Int):Int:=if m < 1∨999999999 < m then 3 else 0
noncomputable def jlB (m:Int) (a b:List UInt8):Int:=if jbr m=0 then (if mst a=0 then mst b else mst a) else jbr m
noncomputable def jhc (m:Int) (a b:List UInt8):Int:=if jlB m a b=0 then (if numQ a < numQ b then 11 else 0) else jlB m a b
theorem jeF {a:List UInt8} (h:mst a=0):IsMoist a (numQ a):=by
 unfold mst at h;by_cases h0:chk a=0
 ·rw [if_pos h0] at h;have hx:=jjb h0;by_cases h1:numQ a < 0∨100≤numQ a
  ·rw [if_pos h1] at h;cases h
  ·exact ⟨hx,Rat.not_lt.1 fun e=>h1 (.inl e),Rat.not_le.1 fun e=>h1 (.inr e)⟩
 ·rw [if_neg h0] at h;exact absurd h h0
theorem jeg {m:Int} (h:jlB m a b=0):(1≤m∧m≤999999999)∧IsMoist a (numQ a)∧IsMoist b (numQ b):=by
 unfold jlB at h;by_cases h0:jbr m=0
 ·rw [if_pos h0] at h;by_cases h1:mst a=0
  ·rw [if_pos h1] at h;refine ⟨?_,jeF h1,jeF h⟩;unfold jbr at h0;by_cases q:m < 1∨999999999 < m
   ·rw [if_pos q] at h0;cases h0
   ·omega
  ·rw [if_neg h1] at h;exact absurd h h1
 ·rw [if_neg h0] at h;exact absurd h h0
theorem jcg {m:Int} (h:jhc m a b=0):(1≤m∧m≤999999999)∧IsMoist a (numQ a)∧IsMoist b (numQ b)∧numQ b≤numQ a:=by
 unfold jhc at h;by_cases h0:jlB m a b=0
 ·rw [if_pos h0] at h;obtain ⟨h1,h2,h3⟩:=jeg h0;by_cases q:numQ a < numQ b
  ·rw [if_pos q] at h;cases h
  ·exact ⟨h1,h2,h3,Rat.not_lt.1 q⟩
 ·rw [if_neg h0] at h;exact absurd h h0
theorem jh7 {k:Int} (hk:jbr mass=k):Calls prog 92 #[.int .i64 mass] w fun e w'=>e= .returned (.int .i64 k)∧Below w.heap.size w w':=by
 unfold jbr at hk;by_cases h1:mass < 1
 ·rw [if_pos (.inl h1)] at hk;subst hk;have p1:decide (mass < 1)=true:=by rw [decide_eq_true_iff];omega
  go_enter func92,ntmps92;go_wp2_with (go_at_call 21;(with_reducible refine mo0 (jap (b:=true) (k:=3) (r:=3) rfl) fun w4 hb4 hc4 hf4 _=> ?_))
  go_ret;exact ⟨rfl,bi⟩
 ·have p1:decide (mass < 1)=false:=by rw [decide_eq_false_iff_not];omega
  by_cases h2:999999999 < mass
  ·rw [if_pos (.inr h2)] at hk;subst hk;have p2:decide (999999999 < mass)=true:=by rw [decide_eq_true_iff];omega
   go_enter func92,ntmps92;go_wp2_with (go_at_call 21;(with_reducible refine mo0 (jap (b:=true) (k:=3) (r:=3) rfl) fun w4 hb4 hc4 hf4 _=> ?_))
   go_ret;exact ⟨rfl,bi⟩
  ·rw [if_neg (by omega)] at hk;subst hk;have p2:decide (999999999 < mass)=false:=by rw [decide_eq_false_iff_not];omega
   go_enter func92,ntmps92;go_wp2_with (go_at_call 21;(with_reducible refine mo0 (jap (b:=false) (k:=3) (r:=0) rfl) fun w4 hb4 hc4 hf4 _=> ?_))
   go_ret;exact ⟨rfl,bi⟩
noncomputable def jlG (m:Int) (a b:List UInt8):Nat→Int
 | 0=>jbr m
 | i+1=>if jlG m a b i=0 then mst ([a,b].getD i []) else jlG m a b i
theorem jq3 (m:Int) (a b:List UInt8):jlG m a b 2=jlB m a b:=by
 have e1:jlG m a b 1=if jbr m=0 then mst a else jbr m:=rfl
 have e2:jlG m a b 2=if jlG m a b 1=0 then mst b else jlG m a b 1:=rfl
 rw [e2,e1];unfold jlB;by_cases h0:jbr m=0
 ·rw [if_pos h0,if_pos h0]
 ·rw [if_neg h0,if_neg h0,if_neg h0]
theorem jcC {k:Int} (hE:Env w) (hla:a.length < 4294967281) (hlb:b.length < 4294967281) (hk:jhc mass a b=k):Calls prog 49 #[.int .i64 mass,bs a,bs b] w fun e w'=>e= .returned (.int .i64 k)∧Below w.heap.size w w':=by
 have HE:=qh hE;have HK:=qh hk;obtain ⟨k0,hk0⟩:∃k,jbr mass=k:=⟨_,rfl⟩;have HM:=qh (fun W=>jh7 (w:=W) hk0);have HMO:=qh (fun l (h:l=a∨l=b) W (hb:Below w.heap.size w W)=>jbI (l:=l) (hE.below hb) (by rcases h with rfl|rfl <;> assumption) rfl);have HK0:=qh hk0;clear hE hla hlb hk hk0;go_enter func49,ntmps49;go_upto_region 2 with (go_at_call 92;(with_reducible refine mo0 (HM.o _) fun w1 hb1 hc1 hf1 _=> ?_))
 go_wp2;have bU:Below w.heap.size w (w1.alloc (.cells #[bs a,bs b] 23)):=bi;have HSV:=qh (Sv.two w1 23 a b);obtain ⟨U,hU⟩:∃U,w1.alloc (.cells #[bs a,bs b] 23)=U:=⟨_,rfl⟩;rw [hU] at bU HSV ⊢;obtain ⟨p,hp⟩:∃p,w1.heap.size=p:=⟨_,rfl⟩;rw [hp] at HSV ⊢;have HBU:=qh bU;clear hU hp hc1 hf1 bU
 go_loopw [7,16] (fun e u wr=>∃(i:Nat),e= .int .i64 (jlG mass a b i)∧u= .int .i64 (i:Int)∧i≤2∧Below U.heap.size U wr) (fun _ u _=>2 - (intOf u).toNat)
 case atStart=>exact ⟨0,by rw [←HK0.o];rfl,rfl,by omega,Below.refl _ _⟩
 case round=>
  obtain ⟨i,rfl,rfl,hin,hb⟩:=hrel;have _:=bm hb;by_cases hi:i < 2
  ·have q0:decide ((i:Int) < 2)=true:=by rw [decide_eq_true_iff];omega
   have q9:decide (i < 2)=true:=by simpa using hi
   obtain ⟨b',o',e,hbl,hcell⟩:=(HSV.o.below hb).at_ (by omega);have hx:=hcell i hi;cases e
   rw [Nat.zero_add] at hx;obtain ⟨x,hxx⟩:∃x,[a,b].getD i []=x:=⟨_,rfl⟩
   have hxab:x=a∨x=b:=by
    rw [←hxx];rcases (show i=0∨i=1 by omega) with rfl|rfl
    ·exact .inl rfl
    ·exact .inr rfl
   have hl:jlG mass a b (i+1)=if jlG mass a b i=0 then mst x else jlG mass a b i:=by rw [←hxx];rfl
   rw [hxx] at hx;obtain ⟨z,hz⟩:∃z,jlG mass a b i=z:=⟨_,rfl⟩;rw [hz] at hl ⊢;have HMX:=qh (HMO.o x hxab wr (ja0 HBU.o hb));have HI:=qh hi;clear hcell hxx hxab hz;by_cases h0:z=0
   ·subst h0;rw [if_pos rfl] at hl;have HL:=qh hl;clear hl;go_wp2_with (go_at_call 93;(with_reducible refine mo0 (HMX.o) fun w2 hb2 hc2 hf2 _=> ?_))
    exact ⟨⟨i+1,by rw [HL.o],by simp,HI.o,ja0 hb bi⟩,by have:=HI.o;simp [intOf];omega⟩
   ·rw [if_neg h0] at hl;have q1:(z==0)=false:=by rw [beq_eq_false_iff_ne];exact h0
    have HL:=qh hl;clear hl h0;go_wp2;exact ⟨⟨i+1,by rw [HL.o],by simp,HI.o,ja0 hb bi⟩,by have:=HI.o;simp [intOf];omega⟩
  ·have q0:decide ((i:Int) < 2)=false:=by rw [decide_eq_false_iff_not];omega
   have q9:decide (i < 2)=false:=by simpa using hi
   obtain rfl:i=2:=by omega
   rw [jq3];have hk:=HK.o;unfold jhc at hk;obtain ⟨z,hz⟩:∃z,jlB mass a b=z:=⟨_,rfl⟩;rw [hz] at hk ⊢;have bW:=ja0 HBU.o hb;by_cases h0:z=0
   ·subst h0;obtain ⟨_,hx,hy⟩:=jeg hz;rw [if_pos rfl] at hk;obtain ⟨x,hxx⟩:∃x,numQ a=x:=⟨_,rfl⟩;obtain ⟨y,hyy⟩:∃x,numQ b=x:=⟨_,rfl⟩;rw [hxx] at hx hk;rw [hyy] at hy hk;obtain ⟨j,hj⟩:∃j,Rq.cmpQ y x=j:=⟨_,rfl⟩;have HJ:=qh hj;have HX:=qh hx.num;have HY:=qh hy.num;have HX2:=qh hx.num.sz;have HY2:=qh hy.num.sz;obtain ⟨g,hg⟩:∃g,decide (0 < j)=g:=⟨_,rfl⟩
    have HW:Hd ((if g then (11:Int) else 0)=k):=qh (by
     rw [←hk,←hg,←hj];by_cases q:x < y
     ·rw [if_pos q,decide_eq_true (Rq.cmp_pos.2 q)];rfl
     ·rw [if_neg q,decide_eq_false (fun e=>q (Rq.cmp_pos.1 e))];rfl)
    clear hk hz hx hy hxx hyy hj hin hi;go_wp2_with (first|(go_at_call 51;(with_reducible show Calls _ _ #[bs b] _ _);(with_reducible refine mf0 (jaz HY.o (HE.o.below (ja0 bW bi))) fun w3 s3 A3 n3 c3 t3 B3 m3 d3 hr3 hq3 hb3 hc3 hf3 _=> ?_))|(go_at_call 51;(with_reducible show Calls _ _ #[bs a] _ _);(with_reducible refine mf0 (jaz HX.o (HE.o.below (ja0 bW bi))) fun w4 s4 A4 n4 c4 t4 B4 m4 d4 hr4 hq4 hb4 hc4 hf4 _=> ?_))|(go_at_call 76;(with_reducible refine mo0 (jd7 600 600 HJ.o (by constructor <;> (with_reducible repeat first|assumption|apply rZ|refine rP ?_ rfl (by simp [go_sem,hc4]))) ⟨hr4,hq4⟩ HY2.o HX2.o (by omega)) fun w5 hb5 hc5 hf5 _=> ?_))|(go_at_call 21;(with_reducible refine mo0 (jap HW.o) fun w6 hb6 hc6 hf6 _=> ?_)))
    go_ret;exact ⟨rfl,ja0 bW bi⟩
   ·rw [if_neg h0] at hk;subst hk;have q1:(z==0)=false:=by rw [beq_eq_false_iff_ne];exact h0
    clear h0 hz hin hi;go_wp2;go_ret;exact ⟨rfl,ja0 bW bi⟩
end

theorem Rep.none {w:World} {s z:Int} {A:Option Addr} {n c:Nat} (h:Rep w s A n c z) (h0: -9223372036854775808 < z) (h1:z < 9223372036854775808):s=z∧A= .none∧n=0∧c=0:=by
 cases h with
 | small _ _ _=>exact ⟨rfl,rfl,rfl,rfl⟩
 | plus _ _ _ ds h=>have:=h.big;omega
 | minus _ _ _ ds h=>have:=h.big;omega
structure Ceil (mass N:Int) (x y:Rat):Prop where
 eq: -((-((mass:Rat)*(100 - x) / (100 - y))).floor)=N
 m1:1≤mass
 m2:mass≤999999999
 hx:x < 100
 hyx:y≤x
theorem Ceil.le {mass N:Int} {x y:Rat} (h:Ceil mass N x y):1≤N∧N≤mass:=by
 obtain ⟨rfl,h1,h2,h3,h4⟩:=h;have hx:0 < 100 - x:=by grind
 have hy:0 < 100 - y:=by grind
 obtain ⟨Q,hQ⟩:∃Q,(mass:Rat)*(100 - x) / (100 - y)=Q:=⟨_,rfl⟩;have hm:(1:Rat)≤(mass:Rat):=by exact_mod_cast h1
 have e:Q*(100 - y)=(mass:Rat)*(100 - x):=by rw [←hQ];grind
 have hpos:0 < (mass:Rat)*(100 - x):=Rat.mul_pos (by grind) hx
 have hQ0:0 < Q:=by
  refine Rat.not_le.1 fun hq=> ?_
  have:=Rat.mul_le_mul_of_nonneg_right hq (Rat.le_of_lt hy);rw [e] at this
  grind
 have hQm:Q≤(mass:Rat):=by
  refine Rat.not_lt.1 fun hq=> ?_
  have h5:=Rat.mul_lt_mul_of_pos_right hq hy;have h6:(mass:Rat)*(100 - x)≤(mass:Rat)*(100 - y):=Rat.mul_le_mul_of_nonneg_left (by grind) (by grind);rw [e] at h5
  grind
 rw [hQ];constructor
 ·have h7:(-Q).floor < 0:=by
   rw [←Int.not_le,Rat.le_floor_iff];intro h8;have:((0:Int):Rat)=0:=rfl;rw [this] at h8
   grind
  omega
 ·have h7: -mass≤(-Q).floor:=by
   rw [Rat.le_floor_iff,Rat.intCast_neg]
   grind
  omega
section
variable {s t u v:Int} {A B C D:Option Addr} {n c m d i k j l:Nat} {w:World} {x y:Rat} {p q:Nat}
theorem jpf {z:Int} (hz: -((-x).floor)=z) (h:RepF w s A n c t B m d x) (hs:Sz p x) (hp:p < 100000):Calls prog 96 #[fv s A n c t B m d] w (ja7 z w):=by
 have HA:=qh h;have HS:=qh hs.neg;have HP:=qh hp;have HZ:=qh hz;clear h hs hp hz;go_enter func96,ntmps96
 go_wp2_with (first
  | (go_at_call 137;(with_reducible refine mf2 w (jhs rfl (HA.o.below bi)) (by go_size) fun w1 s1 A1 n1 c1 t1 B1 m1 d1 hr1 hq1 hb1 hc1 hf1 z1_0 z1_1 _=> ?_))
  | (go_at_call 138;(with_reducible refine mi2 w (jkW ⟨hr1,hq1⟩ HS.o HP.o) (by go_size) fun w2 s2 A2 n2 c2 hr2 hb2 hc2 hf2 z2_0 z2_1 _=> ?_))
  | (go_at_call 125;(with_reducible refine mi2 w (jdt HZ.o hr2) (by go_size) fun w3 s3 A3 n3 c3 hr3 hb3 hc3 hf3 z3_0 z3_1 _=> ?_)))
 exact bodyPost_ret (v:= .agg #[.int .i64 (s3), .slice (A3) (n3) (c3)]) (by simp [results,results96,go_sem,hc3,z2_1,hc2,z1_1,hc1,z3_1]) rfl (jaf rfl ((by with_reducible repeat first|assumption|apply rZ|refine rP ?_ rfl (by simp [go_sem,hc3,z2_1,hc2,z1_1,hc1,z3_1]))) bi)
theorem jgm {mass N:Int} {z:Rat} (hx:RepF w s A n c t B m d x) (hy:RepF w u C i k v D j l y) (hp:Sz p x) (hq:Sz q y) (hpq:p+q < 90000) (hN:Ceil mass N x y) (hz:100 - (mass:Rat)*(100 - x) / (N:Rat)=z):
  Calls prog 50 #[.int .i64 mass,fv s A n c t B m d,fv u C i k v D j l] w fun e w'=>∃s A n c t B m d,e= .returned (.tuple #[.int .i64 N,fv s A n c t B m d])∧RepF w' s A n c t B m d z∧Below w.heap.size w w':=by
 have HA:=qh hx;have HB:=qh hy;have HPQ:=qh hpq;have HZ:=qh hz;obtain ⟨N1,N2⟩:=hN.le;have hm1:=hN.m1;have hm2:=hN.m2;have HNN:=qh (show -9223372036854775808 < N∧N < 9223372036854775808 by omega);have HRM:=qh (show R64 mass from ⟨by omega,by omega⟩);have HRN:=qh (show R64 N from ⟨by omega,by omega⟩);have HR:=qh (show R64 100 by constructor <;> decide);have HF:=qh (show ((100:Int):Rat)=100 from rfl);have H100:=jej HR.o;rw [HF.o] at H100;have HM:=qh (jej HRM.o);have HX:=qh hp;have HX2:=qh (H100.sub hp);have HY:=qh hq;have HY2:=qh (H100.sub hq);have HT:=qh (HM.o.mul HX2.o);have HNS:=qh (jej HRN.o);have HNE:Hd ((100:Rat) - y≠0):=qh (by have:=hN.hx;have:=hN.hyx;grind)
 have HN0:Hd ((N:Rat)≠0):=qh (by
  intro e;have:N=0:=by exact_mod_cast e
  omega)
 have HQS:=qh (HT.o.div HY2.o HNE.o);have HD:=qh (HT.o.div HNS.o HN0.o);have HCE:=qh hN.eq;have HH:=qh H100;clear hx hy hp hq hpq hN hz N1 N2 hm1 hm2 H100;go_enter func50,ntmps50;go_upto_region 1 with (fail)
 have bW:Below w.heap.size w (((w.alloc (.cells #[.int .i64 s, .slice A n c, .int .i64 t, .slice B m d] 70)).alloc (.cells #[.int .i64 u, .slice C i k, .int .i64 v, .slice D j l] 70)).alloc (.cells #[.int .i64 0, .slice none 0 0, .int .i64 0, .slice none 0 0] 70)):=bi;obtain ⟨W,hW⟩:∃W,(((w.alloc (.cells #[.int .i64 s, .slice A n c, .int .i64 t, .slice B m d] 70)).alloc (.cells #[.int .i64 u, .slice C i k, .int .i64 v, .slice D j l] 70)).alloc (.cells #[.int .i64 0, .slice none 0 0, .int .i64 0, .slice none 0 0] 70))=W:=⟨_,rfl⟩;have a0:W.cell? ⟨w.heap.size,0,none⟩=some (.int .i64 s):=by rw [←hW];simp [go_sem]
 have a1:W.cell? ⟨w.heap.size,1,none⟩=some (.slice A n c):=by rw [←hW];simp [go_sem]
 have a2:W.cell? ⟨w.heap.size,2,none⟩=some (.int .i64 t):=by rw [←hW];simp [go_sem]
 have a3:W.cell? ⟨w.heap.size,3,none⟩=some (.slice B m d):=by rw [←hW];simp [go_sem]
 have e0:W.cell? ⟨w.heap.size+1,0,none⟩=some (.int .i64 u):=by rw [←hW];simp [go_sem]
 have e1:W.cell? ⟨w.heap.size+1,1,none⟩=some (.slice C i k):=by rw [←hW];simp [go_sem]
 have e2:W.cell? ⟨w.heap.size+1,2,none⟩=some (.int .i64 v):=by rw [←hW];simp [go_sem]
 have e3:W.cell? ⟨w.heap.size+1,3,none⟩=some (.slice D j l):=by rw [←hW];simp [go_sem]
 have r0:W.cell? ⟨w.heap.size+2,0,none⟩=some (.int .i64 0):=by rw [←hW];simp [go_sem]
 have r1:W.cell? ⟨w.heap.size+2,1,none⟩=some (.slice none 0 0):=by rw [←hW];simp [go_sem]
 have r2:W.cell? ⟨w.heap.size+2,2,none⟩=some (.int .i64 0):=by rw [←hW];simp [go_sem]
 have r3:W.cell? ⟨w.heap.size+2,3,none⟩=some (.slice none 0 0):=by rw [←hW];simp [go_sem]
 have rf0:W.frozen? ⟨w.heap.size+2,0,none⟩=false:=by rw [←hW];simp [go_sem]
 have rf1:W.frozen? ⟨w.heap.size+2,1,none⟩=false:=by rw [←hW];simp [go_sem]
 have rf2:W.frozen? ⟨w.heap.size+2,2,none⟩=false:=by rw [←hW];simp [go_sem]
 have rf3:W.frozen? ⟨w.heap.size+2,3,none⟩=false:=by rw [←hW];simp [go_sem]
 have zW:w.heap.size+2 < W.heap.size:=by rw [←hW];simp
 have zW0:w.heap.size < W.heap.size:=by omega
 have zW1:w.heap.size+1 < W.heap.size:=by omega
 simp only [show w.heap.size+1+1=w.heap.size+2 from rfl];rw [hW] at bW ⊢;obtain ⟨b0,hb0⟩:∃b,w.heap.size=b:=⟨_,rfl⟩;rw [hb0] at a0 a1 a2 a3 e0 e1 e2 e3 r0 r1 r2 r3 rf0 rf1 rf2 rf3 zW zW0 zW1 ⊢;have HBW:=qh bW;have HB0:=qh hb0;clear hW bW hb0
 go_cut [8] (fun p wx=>∃(g:Nat) (s':Int) (A':Option Addr) (n' c':Nat) (t':Int) (B':Option Addr) (m' d':Nat),p= .pointer (some ⟨g,0,none⟩)∧wx.cell? ⟨g,0,none⟩=some (.int .i64 s')∧wx.cell? ⟨g,1,none⟩=some (.slice A' n' c')∧wx.cell? ⟨g,2,none⟩=some (.int .i64 t')∧wx.cell? ⟨g,3,none⟩=some (.slice B' m' d')∧RepF wx s' A' n' c' t' B' m' d' ((mass:Rat)*(100 - x))∧Below W.heap.size W wx)
 case first=>
  refine ja1 (fun w'=>Below W.heap.size W w') [6] (by kernel_rfl) ?_;refine tl [(0,[], .int .i64 mass),(2,[],fv s A n c t B m d)] [_,_] rfl (by kernel_rfl) pk5 (by intros;simp only [tyq,ppq];go_simp) bq0 ?_;simp only [tlq,ppq];refine wa2 1 5 (by kernel_rfl) rfl rfl (fun K hK=> ?o1) (fun K hK=> ?o2)
  case' o1=>
   go_simp;go_wp2_with ((go_at_call 67;(with_reducible refine mf0 (jes rfl HRM.o) fun w1 s1 A1 n1 c1 t1 B1 m1 d1 hr1 hq1 hb1 hc1 hf1 _=> ?_));(first|have y1_0:=szl (k:=W.heap.size) hb1 (by first|go_size|fail)|have y1_0:=Nat.one_pos))
   refine hK.out _ _ (fun _=>bi) ?_;clear hK K;refine wa2 3 5 (by kernel_rfl) rfl rfl (fun K hK=> ?o3) (fun K hK=> ?o4)
   case' o3=>
    go_simp;go_wp2_with ((go_at_call 94;(with_reducible refine mf0 (jeU rfl (HA.o.below (ja0 HBW.o bi)) HX.o (by have:=HPQ.o;omega)) fun w2 s2 A2 n2 c2 t2 B2 m2 d2 hr2 hq2 hb2 hc2 hf2 _=> ?_));(first|have y2_0:=szl (k:=W.heap.size) hb2 (by first|go_size|fail)|have y2_0:=Nat.one_pos);(first|have y2_1:=szl (k:=w1.heap.size) hb2 (by first|go_size|fail)|have y2_1:=Nat.one_pos))
    refine hK.out _ _ (fun _=>bi) ?_;clear hK K;refine wa2 4 5 (by kernel_rfl) rfl rfl (fun K hK=> ?o5) (fun K hK=> ?o6)
    case' o5=>
     go_simp;go_wp2_with ((go_at_call 33;(with_reducible refine mf0 (jbO 1 (1+p+1) rfl (by constructor <;> (with_reducible repeat first|assumption|apply rZ|refine rP ?_ rfl (by simp [go_sem,hc2]))) (by constructor <;> (with_reducible repeat first|assumption|apply rZ|refine rP ?_ rfl (by simp [go_sem,hc2]))) HM.o HX2.o (by have:=HPQ.o;omega)) fun w3 s3 A3 n3 c3 t3 B3 m3 d3 hr3 hq3 hb3 hc3 hf3 _=> ?_));(first|have y3_0:=szl (k:=W.heap.size) hb3 (by first|go_size|fail)|have y3_0:=Nat.one_pos);(first|have y3_1:=szl (k:=w1.heap.size) hb3 (by first|go_size|fail)|have y3_1:=Nat.one_pos);(first|have y3_2:=szl (k:=w2.heap.size) hb3 (by first|go_size|fail)|have y3_2:=Nat.one_pos))
     refine hK.out _ _ (fun _=>bi) ?_;clear hK K;refine wa1 5 (by kernel_rfl) rfl (fun K hK=> ?_);go_simp;refine hK.out _ _ (fun _=>bi) ?_;clear hK K
    case' o6=>
     go_simp;refine hK.out _ _ (fun _=>bi) ?_;clear hK K;refine wa1 4 (by kernel_rfl) rfl (fun K hK=> ?_);go_simp;go_wp2_with ((go_at_call 33;(with_reducible refine mf0 (jbO 1 (1+p+1) rfl (by constructor <;> (with_reducible repeat first|assumption|apply rZ|refine rP ?_ rfl (by simp [go_sem,hc2]))) (by constructor <;> (with_reducible repeat first|assumption|apply rZ|refine rP ?_ rfl (by simp [go_sem,hc2]))) HM.o HX2.o (by have:=HPQ.o;omega)) fun w3 s3 A3 n3 c3 t3 B3 m3 d3 hr3 hq3 hb3 hc3 hf3 _=> ?_));(first|have y3_0:=szl (k:=W.heap.size) hb3 (by first|go_size|fail)|have y3_0:=Nat.one_pos);(first|have y3_1:=szl (k:=w1.heap.size) hb3 (by first|go_size|fail)|have y3_1:=Nat.one_pos);(first|have y3_2:=szl (k:=w2.heap.size) hb3 (by first|go_size|fail)|have y3_2:=Nat.one_pos))
     refine hK.out _ _ (fun _=>bi) ?_;clear hK K
   case' o4=>
    go_simp;refine hK.out _ _ (fun _=>bi) ?_;clear hK K;refine wa1 3 (by kernel_rfl) rfl (fun K hK=> ?_);go_simp;go_wp2_with ((go_at_call 94;(with_reducible refine mf0 (jeU rfl (HA.o.below (ja0 HBW.o bi)) HX.o (by have:=HPQ.o;omega)) fun w2 s2 A2 n2 c2 t2 B2 m2 d2 hr2 hq2 hb2 hc2 hf2 _=> ?_));(first|have y2_0:=szl (k:=W.heap.size) hb2 (by first|go_size|fail)|have y2_0:=Nat.one_pos);(first|have y2_1:=szl (k:=w1.heap.size) hb2 (by first|go_size|fail)|have y2_1:=Nat.one_pos))
    refine hK.out _ _ (fun _=>bi) ?_;clear hK K;refine wa1 4 (by kernel_rfl) rfl (fun K hK=> ?_);go_simp;go_wp2_with ((go_at_call 33;(with_reducible refine mf0 (jbO 1 (1+p+1) rfl (by constructor <;> (with_reducible repeat first|assumption|apply rZ|refine rP ?_ rfl (by simp [go_sem,hc2]))) (by constructor <;> (with_reducible repeat first|assumption|apply rZ|refine rP ?_ rfl (by simp [go_sem,hc2]))) HM.o HX2.o (by have:=HPQ.o;omega)) fun w3 s3 A3 n3 c3 t3 B3 m3 d3 hr3 hq3 hb3 hc3 hf3 _=> ?_));(first|have y3_0:=szl (k:=W.heap.size) hb3 (by first|go_size|fail)|have y3_0:=Nat.one_pos);(first|have y3_1:=szl (k:=w1.heap.size) hb3 (by first|go_size|fail)|have y3_1:=Nat.one_pos);(first|have y3_2:=szl (k:=w2.heap.size) hb3 (by first|go_size|fail)|have y3_2:=Nat.one_pos))
    refine hK.out _ _ (fun _=>bi) ?_;clear hK K
  case' o2=>
   go_simp;refine hK.out _ _ (fun _=>bi) ?_;clear hK K;refine wa1 1 (by kernel_rfl) rfl (fun K hK=> ?_);go_simp;go_wp2_with ((go_at_call 67;(with_reducible refine mf0 (jes rfl HRM.o) fun w1 s1 A1 n1 c1 t1 B1 m1 d1 hr1 hq1 hb1 hc1 hf1 _=> ?_));(first|have y1_0:=szl (k:=W.heap.size) hb1 (by first|go_size|fail)|have y1_0:=Nat.one_pos))
   refine hK.out _ _ (fun _=>bi) ?_;clear hK K;refine wa1 3 (by kernel_rfl) rfl (fun K hK=> ?_);go_simp;go_wp2_with ((go_at_call 94;(with_reducible refine mf0 (jeU rfl (HA.o.below (ja0 HBW.o bi)) HX.o (by have:=HPQ.o;omega)) fun w2 s2 A2 n2 c2 t2 B2 m2 d2 hr2 hq2 hb2 hc2 hf2 _=> ?_));(first|have y2_0:=szl (k:=W.heap.size) hb2 (by first|go_size|fail)|have y2_0:=Nat.one_pos);(first|have y2_1:=szl (k:=w1.heap.size) hb2 (by first|go_size|fail)|have y2_1:=Nat.one_pos))
   refine hK.out _ _ (fun _=>bi) ?_;clear hK K;refine wa1 4 (by kernel_rfl) rfl (fun K hK=> ?_);go_simp;go_wp2_with ((go_at_call 33;(with_reducible refine mf0 (jbO 1 (1+p+1) rfl (by constructor <;> (with_reducible repeat first|assumption|apply rZ|refine rP ?_ rfl (by simp [go_sem,hc2]))) (by constructor <;> (with_reducible repeat first|assumption|apply rZ|refine rP ?_ rfl (by simp [go_sem,hc2]))) HM.o HX2.o (by have:=HPQ.o;omega)) fun w3 s3 A3 n3 c3 t3 B3 m3 d3 hr3 hq3 hb3 hc3 hf3 _=> ?_));(first|have y3_0:=szl (k:=W.heap.size) hb3 (by first|go_size|fail)|have y3_0:=Nat.one_pos);(first|have y3_1:=szl (k:=w1.heap.size) hb3 (by first|go_size|fail)|have y3_1:=Nat.one_pos);(first|have y3_2:=szl (k:=w2.heap.size) hb3 (by first|go_size|fail)|have y3_2:=Nat.one_pos))
   refine hK.out _ _ (fun _=>bi) ?_;clear hK K
  all_goals
   refine rd1 6 (by kernel_rfl) rfl (fun K hK=> ?_);go_simp;refine hK.out _ _ (fun h=>(h (by decide)).elim) ?_;clear hK K;refine ja2 (by kernel_rfl) ?_ _;go_wp2;go_meet;refine ⟨_,s3,A3,n3,c3,t3,B3,m3,d3,rfl, ?_, ?_, ?_, ?_,⟨?_, ?_⟩,bi⟩
   ·simp [go_sem,hc3,hc2,hc1,y1_0,y2_0,y2_1,y3_0,y3_1,y3_2]
   ·simp [go_sem,hc3,hc2,hc1,y1_0,y2_0,y2_1,y3_0,y3_1,y3_2]
   ·simp [go_sem,hc3,hc2,hc1,y1_0,y2_0,y2_1,y3_0,y3_1,y3_2]
   ·simp [go_sem,hc3,hc2,hc1,y1_0,y2_0,y2_1,y3_0,y3_1,y3_2]
   ·exact (by with_reducible repeat first|assumption|apply rZ|refine rP ?_ rfl (by simp [go_sem,hc3,hc2,hc1,y1_0,y2_0,y2_1,y3_0,y3_1,y3_2]))
   ·exact (by with_reducible repeat first|assumption|apply rZ|refine rP ?_ rfl (by simp [go_sem,hc3,hc2,hc1,y1_0,y2_0,y2_1,y3_0,y3_1,y3_2]))
 case rest=>
  rename World=>wx
  obtain ⟨g,s',A',n',c',t',B',m',d',rfl,f0,f1,f2,f3,hF,hbx⟩:=hcut;have _:=bm hbx;have HFX:=qh (fun V (h:Below wx.heap.size wx V)=>hF.below h);have bX:=ja0 HBW.o hbx;have HBX:=qh (fun V (h:Below wx.heap.size wx V)=>HB.o.below (ja0 bX h));replace e0:=ja9 hbx e0;replace e1:=ja9 hbx e1;replace e2:=ja9 hbx e2;replace e3:=ja9 hbx e3;replace r0:=ja9 hbx r0;replace r1:=ja9 hbx r1;replace r2:=ja9 hbx r2;replace r3:=ja9 hbx r3;replace rf0:=(hbx.frozen (p:=⟨b0+2,0,none⟩) zW).trans rf0;replace rf1:=(hbx.frozen (p:=⟨b0+2,1,none⟩) zW).trans rf1;replace rf2:=(hbx.frozen (p:=⟨b0+2,2,none⟩) zW).trans rf2;replace rf3:=(hbx.frozen (p:=⟨b0+2,3,none⟩) zW).trans rf3;replace zW:=Nat.lt_of_lt_of_le zW hbx.size;replace zW1:=Nat.lt_of_lt_of_le zW1 hbx.size;have zg:=World.block_lt_of_cell? wx _ f0;dsimp only at zg;have HBC:=qh bX;clear hF hbx bX a0 a1 a2 a3 zW0;go_upto_region 2 with (fail)
  refine ja1 (fun w'=>Below wx.heap.size wx w') [] (by kernel_rfl) ?_;refine tl [(0,[],fv s' A' n' c' t' B' m' d'),(1,[],fv u C i k v D j l)] [_,_] rfl (by kernel_rfl) pk5 (by intros;simp only [tyq,ppq];go_simp) bq0 ?_;simp only [tlq,ppq];refine rd1 2 (by kernel_rfl) rfl (fun K hK=> ?_);go_simp;go_wp2_with (go_at_call 94;(with_reducible refine mf0 (jeU rfl (HBX.o _ bi) HY.o (by have:=HPQ.o;omega)) fun w4 s4 A4 n4 c4 t4 B4 m4 d4 hr4 hq4 hb4 hc4 hf4 _=> ?_))
  have sS4:=qh (bst bq0 hb4);refine hK.out _ _ (fun _=>sS4.o) ?_;clear hK K;refine rd1 3 (by kernel_rfl) rfl (fun K hK=> ?_);go_simp;go_wp2_with (go_at_call 95;(with_reducible refine mf0 (jeB (1+(1+p+1)) (1+q+1) rfl (HFX.o _ bi) ⟨hr4,hq4⟩ HT.o HY2.o (by have:=HPQ.o;omega) HNE.o) fun w5 s5 A5 n5 c5 t5 B5 m5 d5 hr5 hq5 hb5 hc5 hf5 _=> ?_))
  have sS5:=qh (bst sS4.o hb5);refine hK.out _ _ (fun _=>sS5.o) ?_;clear hK K;refine rd1 4 (by kernel_rfl) rfl (fun K hK=> ?_);go_simp;go_wp2_with (go_at_call 96;(with_reducible refine mi0 (jpf HCE.o ⟨hr5,hq5⟩ HQS.o (by have:=HPQ.o;omega)) fun w6 s6 A6 n6 c6 hr6 hb6 hc6 hf6 _=> ?_))
  have sS6:=qh (bst sS5.o hb6);refine hK.out _ _ (fun _=>sS6.o) ?_;clear hK K;obtain ⟨he6,rfl,rfl,rfl⟩:=hr6.none HNN.o.1 HNN.o.2;obtain rfl:N=s6:=he6.symm;refine rd1 5 (by kernel_rfl) rfl (fun K hK=> ?_);go_simp;go_wp2_with (go_at_call 97;(with_reducible refine mo0 (jcE (g:=true) rfl) fun w7 hb7 hc7 hf7 _=> ?_))
  have sS7:=qh (bst sS6.o hb7);refine hK.out _ _ (fun _=>sS7.o) ?_;clear hK K;refine rd1 6 (by kernel_rfl) rfl (fun K hK=> ?_);go_simp;refine hK.out _ _ (fun _=>bi) ?_;clear hK K;refine tl [(7,[], .int .i64 N),(8,[], .bool true)] [_,_] rfl (by kernel_rfl) pk5 (by intros;simp only [tyq,ppq];go_simp) sS7.o ?_;simp only [tlq,ppq];refine rd1 9 (by kernel_rfl) rfl (fun K hK=> ?_);go_simp;refine hK.out _ _ (fun _=>bi) ?_;clear hK K;refine rd1 10 (by kernel_rfl) rfl (fun K hK=> ?_);go_simp;refine hK.out _ _ (fun _=>bi) ?_;clear hK K;refine ja2 (by kernel_rfl) ?_ _;have b7:RowKit.Below wx.heap.size wx w7:=bi;replace f0:=ja9 b7 f0;replace f1:=ja9 b7 f1;replace f2:=ja9 b7 f2;replace f3:=ja9 b7 f3;replace r0:=ja9 b7 r0;replace r1:=ja9 b7 r1;replace r2:=ja9 b7 r2;replace r3:=ja9 b7 r3;replace rf0:=(b7.frozen (p:=⟨b0+2,0,none⟩) zW).trans rf0;replace rf1:=(b7.frozen (p:=⟨b0+2,1,none⟩) zW).trans rf1;replace rf2:=(b7.frozen (p:=⟨b0+2,2,none⟩) zW).trans rf2;replace rf3:=(b7.frozen (p:=⟨b0+2,3,none⟩) zW).trans rf3;replace zW:=Nat.lt_of_lt_of_le zW b7.size;replace zg:=Nat.lt_of_lt_of_le zg b7.size;have HF7:=qh (fun V (h:RowKit.Below w7.heap.size w7 V)=>HFX.o _ (ja0 b7 h));have HB7:=qh (ja0 HBC.o b7);clear b7 e0 e1 e2 e3 zW1 hc4 hc5 hc6 hc7 hf4 hf5 hf6 hf7 hr4 hq4 hr5 hq5 hr6 hb4 hb5 hb6 hb7;go_upto_region 3 with (fail)
  refine ja1 (fun w'=>Below w7.heap.size w7 w') [8] (by kernel_rfl) ?_;refine tl [(0,[], .int .i64 N),(2,[],fv s' A' n' c' t' B' m' d'),(3,[], .int .i64 N)] [_,_,_] rfl (by kernel_rfl) pk5 (by intros;simp only [tyq,ppq];go_simp) bq0 ?_;simp only [tlq,ppq];refine rd1 1 (by kernel_rfl) rfl (fun K hK=> ?_);go_simp;go_wp2_with (go_at_call 67;(with_reducible refine mf0 (jes HF.o HR.o) fun w8 s8 A8 n8 c8 t8 B8 m8 d8 hr8 hq8 hb8 hc8 hf8 _=> ?_))
  have sS8:=qh (bst bq0 hb8);refine hK.out _ _ (fun _=>sS8.o) ?_;clear hK K;refine rd1 4 (by kernel_rfl) rfl (fun K hK=> ?_);go_simp;go_wp2_with (go_at_call 67;(with_reducible refine mf0 (jes rfl HRN.o) fun w9 s9 A9 n9 c9 t9 B9 m9 d9 hr9 hq9 hb9 hc9 hf9 _=> ?_))
  have sS9:=qh (bst sS8.o hb9);refine hK.out _ _ (fun _=>sS9.o) ?_;clear hK K;refine rd1 5 (by kernel_rfl) rfl (fun K hK=> ?_);go_simp;go_wp2_with (go_at_call 95;(with_reducible refine mf0 (jeB (1+(1+p+1)) 1 rfl (HF7.o _ bi) ⟨hr9,hq9⟩ HT.o HNS.o (by have:=HPQ.o;omega) HN0.o) fun w10 s10 A10 n10 c10 t10 B10 m10 d10 hr10 hq10 hb10 hc10 hf10 _=> ?_))
  have sS10:=qh (bst sS9.o hb10);refine hK.out _ _ (fun _=>sS10.o) ?_;clear hK K;refine rd1 6 (by kernel_rfl) rfl (fun K hK=> ?_);go_simp;go_wp2_with (go_at_call 98;(with_reducible refine mf0 (jeP 1 (1+(1+p+1)+1) HZ.o (by constructor <;> (with_reducible repeat first|assumption|apply rZ|refine rP ?_ rfl (by simp [go_sem,hc10]))) ⟨hr10,hq10⟩ HH.o HD.o (by have:=HPQ.o;omega)) fun w11 s11 A11 n11 c11 t11 B11 m11 d11 hr11 hq11 hb11 hc11 hf11 _=> ?_))
  have sS11:=qh (bst sS10.o hb11);refine hK.out _ _ (fun _=>sS11.o) ?_;clear hK K;refine rd1 7 (by kernel_rfl) rfl (fun K hK=> ?_);go_simp;refine hK.out _ _ (fun _=>bi) ?_;clear hK K;have b11:RowKit.Below w7.heap.size w7 w11:=bi;replace r0:=ja9 b11 r0;replace r1:=ja9 b11 r1;replace r2:=ja9 b11 r2;replace r3:=ja9 b11 r3;replace rf0:=(b11.frozen (p:=⟨b0+2,0,none⟩) zW).trans rf0;replace rf1:=(b11.frozen (p:=⟨b0+2,1,none⟩) zW).trans rf1;replace rf2:=(b11.frozen (p:=⟨b0+2,2,none⟩) zW).trans rf2;replace rf3:=(b11.frozen (p:=⟨b0+2,3,none⟩) zW).trans rf3;refine rd1 8 (by kernel_rfl) rfl (fun K hK=> ?_);go_simp;refine hK.out _ _ (fun h=>(h (by decide)).elim) ?_;clear hK K;refine ja2 (by kernel_rfl) ?_ _;go_wp2;have hp:w.heap.size≤b0+2:=by rw [HB0.o];exact Nat.le_add_right _ _
  have hB:=ja0 HB7.o b11;exact bodyPost_ret (v:= .tuple #[.int .i64 N,fv s11 A11 n11 c11 t11 B11 m11 d11]) (by simp [results,results50,go_sem,r0,r1,r2,r3]) rfl ⟨_,_,_,_,_,_,_,_,rfl,(by constructor <;> (with_reducible repeat first|assumption|apply rZ|refine rP ?_ rfl (by simp [go_sem,r0,r1,r2,r3]))),bC (bC (bC (bC hB hp) hp) hp) hp⟩
end


section
variable {w:World} {a b:List UInt8} {mass:Int} {x y:Rat}
theorem jtk {N:Int} {z:Rat} {tz:List UInt8} {ez rn:Int} (hE:Env w) (hla:a.length < 4294967281) (hlb:b.length < 4294967281) (hk:jhc mass a b=0) (hN:Ceil mass N (numQ a) (numQ b)) (hz:100 - (mass:Rat)*(100 - numQ a) / (N:Rat)=z) (hS:StrQ z) (ht:jcF z=tz) (he:jbq z=ez) (hrn:(if ez=0 then N else 0)=rn):
  Calls prog 18 #[.int .i64 mass,bs a,bs b] w fun e w'=>e= .returned (.tuple #[.int .i64 rn,bs tz, .int .i64 ez])∧Below w.heap.size w w':=by
 have HE:=qh hE;have HL:=qh (fun W (hb:Below w.heap.size w W)=>jcC (hE.below hb) hla hlb hk);obtain ⟨_,hx,hy,hle⟩:=jcg hk;obtain ⟨x,hxx⟩:∃x,numQ a=x:=⟨_,rfl⟩;obtain ⟨y,hyy⟩:∃x,numQ b=x:=⟨_,rfl⟩;rw [hxx] at hx hz hN;rw [hyy] at hy hN;have HX:=qh hx.num;have HY:=qh hy.num;have HZ:=qh hz;have HN:=qh hN;have HS:=qh hS;have HX2:=qh hx.num.sz;have HY2:=qh hy.num.sz;obtain ⟨g,hg⟩:∃g,je3 z=g:=⟨_,rfl⟩;have HG:=qh hg;cases g
 ·have HD:=qh (DigQ.of hg);obtain rfl:tq z=tz:=by rw [←ht];unfold jcF;rw [hg];rfl
  obtain rfl:(0:Int)=ez:=by rw [←he];unfold jbq;rw [hg];rfl
  rw [if_pos rfl] at hrn;subst hrn;clear hE hla hlb hk hx hy hz hN hS ht he hxx hyy hle hg;go_enter func18,ntmps18
  go_wp2_with (first
   | (go_at_call 49;(with_reducible refine mo0 (HL.o _ bi) fun w1 hb1 hc1 hf1 _=> ?_))
   | (go_at_call 51;(with_reducible show Calls _ _ #[bs a] _ _);(with_reducible refine mf0 (jaz HX.o (HE.o.below bi)) fun w2 s2 A2 n2 c2 t2 B2 m2 d2 hr2 hq2 hb2 hc2 hf2 _=> ?_))
   | (go_at_call 51;(with_reducible show Calls _ _ #[bs b] _ _);(with_reducible refine mf0 (jaz HY.o (HE.o.below bi)) fun w3 s3 A3 n3 c3 t3 B3 m3 d3 hr3 hq3 hb3 hc3 hf3 _=> ?_))
   | (go_at_call 50;(with_reducible refine (jgm (p:=600) (q:=600) (by constructor <;> (with_reducible repeat first|assumption|apply rZ|refine rP ?_ rfl (by simp [go_sem,hc3]))) ⟨hr3,hq3⟩ HX2.o HY2.o (by omega) HN.o HZ.o).mono ?_);rintro e4 w4 ⟨s4,A4,n4,c4,t4,B4,m4,d4,rfl,⟨hr4,hq4⟩,hb4⟩;obtain ⟨hc4,hf4,_⟩:=bc0 hb4)
   | (go_at_call 52;(with_reducible refine mo0 (jbf HG.o (by constructor <;> (with_reducible repeat first|assumption|apply rZ|refine rP ?_ rfl (by simp [go_sem,hc4]))) (HE.o.below bi) HS.o) fun w5 hb5 hc5 hf5 _=> ?_))
   | (go_at_call 53;(with_reducible refine mo0 (jgy (by constructor <;> (with_reducible repeat first|assumption|apply rZ|refine rP ?_ rfl (by simp [go_sem,hc5]))) (HE.o.below bi) HS.o HD.o) fun w6 hb6 hc6 hf6 _=> ?_)))
  go_ret3;exact ⟨rfl,bi⟩
 ·obtain rfl: []=tz:=by rw [←ht];unfold jcF;rw [hg];rfl
  obtain rfl:(4:Int)=ez:=by rw [←he];unfold jbq;rw [hg];rfl
  rw [if_neg (by decide)] at hrn;subst hrn;clear hE hla hlb hk hx hy hz hN hS ht he hxx hyy hle hg;go_enter func18,ntmps18
  go_wp2_with (first
   | (go_at_call 49;(with_reducible refine mo0 (HL.o _ bi) fun w1 hb1 hc1 hf1 _=> ?_))
   | (go_at_call 51;(with_reducible show Calls _ _ #[bs a] _ _);(with_reducible refine mf0 (jaz HX.o (HE.o.below bi)) fun w2 s2 A2 n2 c2 t2 B2 m2 d2 hr2 hq2 hb2 hc2 hf2 _=> ?_))
   | (go_at_call 51;(with_reducible show Calls _ _ #[bs b] _ _);(with_reducible refine mf0 (jaz HY.o (HE.o.below bi)) fun w3 s3 A3 n3 c3 t3 B3 m3 d3 hr3 hq3 hb3 hc3 hf3 _=> ?_))
   | (go_at_call 50;(with_reducible refine (jgm (p:=600) (q:=600) (by constructor <;> (with_reducible repeat first|assumption|apply rZ|refine rP ?_ rfl (by simp [go_sem,hc3]))) ⟨hr3,hq3⟩ HX2.o HY2.o (by omega) HN.o HZ.o).mono ?_);rintro e4 w4 ⟨s4,A4,n4,c4,t4,B4,m4,d4,rfl,⟨hr4,hq4⟩,hb4⟩;obtain ⟨hc4,hf4,_⟩:=bc0 hb4)
   | (go_at_call 52;(with_reducible refine mo0 (jbf HG.o (by constructor <;> (with_reducible repeat first|assumption|apply rZ|refine rP ?_ rfl (by simp [go_sem,hc4]))) (HE.o.below bi) HS.o) fun w5 hb5 hc5 hf5 _=> ?_)))
  go_ret3;exact ⟨rfl,bi⟩
end

section
variable {w:World} {l a b:List UInt8} {mass:Int}
end

section
variable {w:World} {l a b:List UInt8} {mass:Int}
variable {x y z:Rat} {k j:Nat}
end

section
variable {w:World} {a b x want:List UInt8} {mass:Int}
variable {A B:Option Addr} {n c d:Nat} {ls:List (List UInt8)}
end
end Go.Proofs.YtfagcpcikjlboaaGreatDoor
