/- Parts. -/
import Derived.Test.YtlcbfkiknejdnaaGreatDoorMpG
import Derived.Test.YtlcbfkiknejdnaaGreatDoorDaG
set_option linter.all false
set_option maxRecDepth 100000
set_option maxHeartbeats 8000000
namespace Go.Proofs.YtlcbfkiknejdnaaGreatDoor
open Go Go.RowKit

theorem Sv.one (w:World) (t:TypeId) (k:List UInt8):Sv (w.alloc (.cells #[bs k] t)) (some ⟨w.heap.size,0,none⟩) 1 [k]:=
 ⟨rfl,fun _=>⟨w.heap.size,0,rfl,by simp,fun j hj=>by
   obtain rfl:j=0:=by omega
   simp⟩⟩
section
variable {w:World} {A:Option Addr} {n c:Nat} {ls:List (List UInt8)}
theorem jmp {R:Int} (hE:Env w) (h:Sv w A n ls) (hn:n≤100000) (hl:∀l∈ls,l.length < 4294967281) (hR:jar chk ls=R):
  Calls Tryz.prog 44 #[.slice A n c] w fun e w'=>e= .returned (.int .i64 R)∧Below w.heap.size w w':=by
 have HR:=qh hR;have H:=qh h;have HN:=qh hn;have HF:=qh (fun l (h:l∈ls) W (hb:Below w.heap.size w W)=>jln rfl (hE.below hb) (hl l h));clear hR h hn hE hl;go_enter Tryz.func44,Tryz.ntmps44;go_wp2
 go_loopw [8] (fun u wr=>∃(i:Nat),u= .int .i64 (i:Int)∧Below w.heap.size w wr∧i≤n∧jar chk (ls.drop i)=R) (fun u _=>n - (intOf u).toNat)
 case atStart=>exact ⟨0,rfl,bi,by omega,HR.out⟩
 case round=>
  obtain ⟨i,rfl,hb,hin,hc⟩:=hrel;have _:=bm hb;by_cases hi:i < n
  ·have q0:decide ((i:Int) < (n:Int))=true:=by simp;exact hi
   obtain ⟨b,o,rfl,hbl,hcell⟩:=(H.out.below hb).at_ (by omega);have hx:=hcell i hi;have hil:i < ls.length:=by rw [H.out.len];exact hi
   rw [jd5 (d:=[]) hil] at hc;have hmem:ls.getD i []∈ls:=by rw [List.getD_eq_getElem?_getD,List.getElem?_eq_getElem hil];exact List.getElem_mem hil
   obtain ⟨x,hxx⟩:∃x,ls.getD i []=x:=⟨_,rfl⟩;rw [hxx] at hx hc hmem;have HX:=qh (HF.out x hmem wr hb);have hnn:=HN.out;have HI:=qh hi;clear hcell hmem hil hxx;by_cases h0:chk x=0
   ·have HC:Hid (jar chk (ls.drop (i+1))=R):=qh (by rw [←hc,jf3 h0]);rw [h0] at HX;clear hc h0 hi;go_wp2_with (go_at_call 102;(with_reducible refine mo0 (HX.out) fun w1 hb1 hc1 hf1 _=> ?_))
    exact ⟨⟨i+1,by simp,bi,HI.out,HC.out⟩,by have:=HI.out;simp [intOf];omega⟩
   ·have hR:R=chk x:=by rw [←hc,jed h0]
    subst hR;obtain ⟨y,hy⟩:∃y,chk x=y:=⟨_,rfl⟩;rw [hy] at HX;have q1:(y != 0)=true:=by rw [bne_iff_ne,←hy];exact h0
    have HY:=qh hy;clear hc h0 hi hy HR;go_wp2_with (go_at_call 102;(with_reducible refine mo0 (HX.out) fun w1 hb1 hc1 hf1 _=> ?_))
    go_ret;exact ⟨by rw [HY.out];rfl,bi⟩
  ·have q0:decide (i < n)=false:=by simp;omega
   rw [List.drop_eq_nil_of_le (by rw [H.out.len];omega)] at hc;have hR:R=0:=by rw [←hc];rfl
   subst hR;clear hc hi HR;go_wp2;go_ret;exact ⟨rfl,bi⟩
end
section
variable {s t:Int} {A B:Option Addr} {n c m d:Nat} {w:World} {x:Rat}
theorem jpA {tx:List UInt8} {ex:Int} (ht:jcF x=tx) (he:jbq x=ex) (h:RepF w s A n c t B m d x) (hE:Env w) (hS:StrQ x):Calls Tryz.prog 38 #[fv s A n c t B m d] w fun e w'=>e= .returned (.tuple #[bs tx, .int .i64 ex])∧Below w.heap.size w w':=by
 subst ht he;have HR:=qh h;have HE:=qh hE;have HS:=qh hS;obtain ⟨g,hg⟩:∃g,je3 x=g:=⟨_,rfl⟩;have HG:=qh hg;cases g
 ·have HD:=qh (DigQ.of hg);have e1:jcF x=tq x:=by unfold jcF;rw [hg];rfl
  have e2:jbq x=0:=by unfold jbq;rw [hg];rfl
  rw [e1,e2];clear h hE hS hg e1 e2;go_enter Tryz.func38,Tryz.ntmps38
  go_wp2_with (first
   | (go_at_call 64;(with_reducible refine mo1 w (jbf HG.out (HR.out.below bi) (HE.out.below bi) HS.out) (by go_size) fun w1 hb1 hc1 hf1 z1_0 _=> ?_))
   | (go_at_call 65;(with_reducible refine mo1 w (jgy (HR.out.below bi) (HE.out.below bi) HS.out HD.out) (by go_size) fun w2 hb2 hc2 hf2 z2_0 _=> ?_)))
  go_ret2;exact ⟨rfl,bi⟩
 ·have e1:jcF x=[]:=by unfold jcF;rw [hg];rfl
  have e2:jbq x=4:=by unfold jbq;rw [hg];rfl
  rw [e1,e2];clear h hE hS hg e1 e2;go_enter Tryz.func38,Tryz.ntmps38;go_wp2_with (go_at_call 64;(with_reducible refine mo1 w (jbf HG.out (HR.out.below bi) (HE.out.below bi) HS.out) (by go_size) fun w1 hb1 hc1 hf1 z1_0 _=> ?_))
  go_ret2;exact ⟨rfl,bi⟩
theorem jsn {p:Nat} {b:Bool} (h:RepF w s A n c t B m d x) (hs:Sz p x) (hp:p+1 < 100000) (hb:decide (0≤x∧x < 100)=b):Calls Tryz.prog 46 #[fv s A n c t B m d] w fun e w'=>e= .returned (.bool b)∧Below w.heap.size w w':=by
 have HA:=qh h;have HS:=qh hs;have HP:=qh hp;have HF:=qh (show ((100:Int):Rat)=100 from rfl);have HR:=qh (show R64 100 by constructor <;> decide);have H2:=qh (jej HR.out);rw [HF.out] at H2;obtain ⟨k,hk⟩:∃k,sgn x.num=k:=⟨_,rfl⟩;obtain ⟨j,hj⟩:∃j,Rq.cmpQ x 100=j:=⟨_,rfl⟩;have HK:=qh hk;have HJ:=qh hj;by_cases h0:x < 0
 ·obtain rfl:false=b:=by rw [←hb,eq_comm,decide_eq_false_iff_not];exact fun e=>Rat.not_lt.2 e.1 h0
  obtain rfl: -1=k:=by rw [←hk];unfold sgn;rw [if_pos (jgN.2 h0)]
  clear h hs hp hb hk hj h0;go_enter Tryz.func46,Tryz.ntmps46;go_upto_region 1 with (fail)
  refine ja1 (fun w'=>Below (w.alloc (.cells #[.int .i64 s, .slice A n c, .int .i64 t, .slice B m d] 82)).heap.size (w.alloc (.cells #[.int .i64 s, .slice A n c, .int .i64 t, .slice B m d] 82)) w') [] (by kernel_rfl) ?_;refine tb 0 (fv s A n c t B m d) [1] rfl (by kernel_rfl) pk rfl (by intros;go_simp) bq0 ?_;simp only [ppq];refine rd1 1 (by kernel_rfl) rfl (fun K hK=> ?_);go_simp;go_wp2_with (go_at_call 45;(with_reducible refine mo0 (jg2 HK.out (HA.out.below bi)) fun w3 hb3 hc3 hf3 _=> ?_))
  have sS3:=qh (bst bq0 hb3);refine hK.out _ _ (fun _=>sS3.out) ?_;clear hK K;refine rd1 2 (by kernel_rfl) rfl (fun K hK=> ?_);go_simp;refine hK.out _ _ (fun _=>bi) ?_;clear hK K;refine rd1 3 (by kernel_rfl) rfl (fun K hK=> ?_);go_simp;refine hK.out _ _ (fun _=>bi) ?_;clear hK K;refine ts 4 [] rfl (by kernel_rfl) pk (by rfl) sS3.out ?_;simp only [ppq];refine rd1 5 (by kernel_rfl) rfl (fun K hK=> ?_);go_simp;refine hK.out _ _ (fun _=>bi) ?_;clear hK K;refine rd1 6 (by kernel_rfl) rfl (fun K hK=> ?_);go_simp;refine hK.out _ _ (fun _=>bi) ?_;clear hK K;refine rd1 7 (by kernel_rfl) rfl (fun K hK=> ?_);go_simp;refine hK.out _ _ (fun _=>bi) ?_;clear hK K;refine rd1 8 (by kernel_rfl) rfl (fun K hK=> ?_);go_simp;refine hK.out _ _ (fun _=>bi) ?_;clear hK K;refine rd1 9 (by kernel_rfl) rfl (fun K hK=> ?_);go_simp;refine hK.out _ _ (fun _=>bi) ?_;clear hK K;refine ja2 (by kernel_rfl) ?_ _;go_wp2;go_ret;exact ⟨rfl,bi⟩
 ·have hk0:0≤k:=by
   rw [←hk];unfold sgn;have:¬x.num < 0:=fun h=>h0 (jgN.1 h)
   rw [if_neg this];split <;> omega
  have q1:decide (0≤k)=true:=by simpa using hk0
  have q2:decide (j < 0)=b:=by
   rw [←hb,decide_eq_decide,←hj];exact ⟨fun e=>⟨Rat.not_lt.1 h0,Rq.cmp_neg.1 e⟩,fun e=>Rq.cmp_neg.2 e.2⟩
  clear h hs hp hb hk hj h0 hk0;go_enter Tryz.func46,Tryz.ntmps46;go_upto_region 1 with (fail)
  refine ja1 (fun w'=>Below (w.alloc (.cells #[.int .i64 s, .slice A n c, .int .i64 t, .slice B m d] 82)).heap.size (w.alloc (.cells #[.int .i64 s, .slice A n c, .int .i64 t, .slice B m d] 82)) w') [] (by kernel_rfl) ?_;refine tb 0 (fv s A n c t B m d) [1] rfl (by kernel_rfl) pk rfl (by intros;go_simp) bq0 ?_;simp only [ppq];refine rd1 1 (by kernel_rfl) rfl (fun K hK=> ?_);go_simp;go_wp2_with (go_at_call 45;(with_reducible refine mo0 (jg2 HK.out (HA.out.below bi)) fun w3 hb3 hc3 hf3 _=> ?_))
  have sS3:=qh (bst bq0 hb3);refine hK.out _ _ (fun _=>sS3.out) ?_;clear hK K;refine rd1 2 (by kernel_rfl) rfl (fun K hK=> ?_);go_simp;refine hK.out _ _ (fun _=>bi) ?_;clear hK K;refine rd1 3 (by kernel_rfl) rfl (fun K hK=> ?_);go_simp;refine hK.out _ _ (fun _=>bi) ?_;clear hK K;have hy3:w.heap.size < w3.heap.size:=by have:=hb3.size;simp at this;omega
  refine tb 4 (fv s A n c t B m d) [6] rfl (by kernel_rfl) pk rfl (by intros;go_simp) sS3.out ?_;simp only [ppq];refine rd1 5 (by kernel_rfl) rfl (fun K hK=> ?_);go_simp;go_wp2_with (go_at_call 32;(with_reducible refine mf0 (jes HF.out HR.out) fun w4 s4 A4 n4 c4 t4 B4 m4 d4 hr4 hq4 hb4 hc4 hf4 _=> ?_))
  have sS4:=qh (bst sS3.out hb4);refine hK.out _ _ (fun _=>sS4.out) ?_;clear hK K;refine rd1 6 (by kernel_rfl) rfl (fun K hK=> ?_);go_simp;go_wp2_with (go_at_call 31;(with_reducible refine mo0 (jd7 p 1 HJ.out (HA.out.below bi) ⟨hr4,hq4⟩ HS.out H2.out HP.out) fun w5 hb5 hc5 hf5 _=> ?_))
  have sS5:=qh (bst sS4.out hb5);refine hK.out _ _ (fun _=>sS5.out) ?_;clear hK K;refine rd1 7 (by kernel_rfl) rfl (fun K hK=> ?_);go_simp;refine hK.out _ _ (fun _=>bi) ?_;clear hK K;refine rd1 8 (by kernel_rfl) rfl (fun K hK=> ?_);go_simp;refine hK.out _ _ (fun _=>bi) ?_;clear hK K;refine rd1 9 (by kernel_rfl) rfl (fun K hK=> ?_);go_simp;refine hK.out _ _ (fun _=>bi) ?_;clear hK K;refine ja2 (by kernel_rfl) ?_ _;cases b <;>
  ·go_wp2;go_ret;exact ⟨rfl,bi⟩
theorem jeU {p:Nat} {z:Rat} (hz:100 - x=z) (h:RepF w s A n c t B m d x) (hs:Sz p x) (hp:p+2 < 100000):Calls Tryz.prog 34 #[fv s A n c t B m d] w (jaa z w):=by
 have HA:=qh h;have HS:=qh hs;have HP:=qh hp;have HF:=qh (show ((100:Int):Rat)=100 from rfl);have HR:=qh (show R64 100 by constructor <;> decide);have H2:=qh (jej HR.out);rw [HF.out] at H2;have HZ:=qh hz;clear h hs hp hz;go_enter Tryz.func34,Tryz.ntmps34;go_upto_region 1 with (fail)
 refine ja1 (fun w'=>Below ((w.alloc (.cells #[.int .i64 s, .slice A n c, .int .i64 t, .slice B m d] 82)).alloc (.cells #[.int .i64 0, .slice none 0 0, .int .i64 0, .slice none 0 0] 82)).heap.size ((w.alloc (.cells #[.int .i64 s, .slice A n c, .int .i64 t, .slice B m d] 82)).alloc (.cells #[.int .i64 0, .slice none 0 0, .int .i64 0, .slice none 0 0] 82)) w') [3] (by kernel_rfl) ?_;refine tb 1 (fv s A n c t B m d) [] rfl (by kernel_rfl) pk rfl (by intros;go_simp) bq0 ?_;simp only [ppq];refine rd1 0 (by kernel_rfl) rfl (fun K hK=> ?_);go_simp;go_wp2_with (go_at_call 32;(with_reducible refine mf2 w (jes HF.out HR.out) (by go_size) fun w1 s1 A1 n1 c1 t1 B1 m1 d1 hr1 hq1 hb1 hc1 hf1 z1_0 z1_1 _=> ?_))
 have sS1:=qh (bst bq0 hb1);refine hK.out _ _ (fun _=>sS1.out) ?_;clear hK K;refine rd1 2 (by kernel_rfl) rfl (fun K hK=> ?_);go_simp;go_wp2_with (go_at_call 36;(with_reducible refine mf2 w (jeP 1 p HZ.out ⟨hr1,hq1⟩ (HA.out.below bi) H2.out HS.out (by have:=HP.out;omega)) (by go_size) fun w2 s2 A2 n2 c2 t2 B2 m2 d2 hr2 hq2 hb2 hc2 hf2 z2_0 z2_1 _=> ?_))
 have sS2:=qh (bst sS1.out hb2);refine hK.out _ _ (fun _=>sS2.out) ?_;clear hK K;refine rd1 3 (by kernel_rfl) rfl (fun K hK=> ?_);go_simp;refine hK.out _ _ (fun h=>(h (by decide)).elim) ?_;clear hK K;refine ja2 (by kernel_rfl) ?_ _;go_wp2;exact bodyPost_ret (v:= .agg #[.int .i64 (s2), .slice (A2) (n2) (c2), .int .i64 (t2), .slice (B2) (m2) (d2)]) (by simp [results,Tryz.results34,go_sem,hc2,z1_1,hc1,z2_1]) rfl (jan rfl ⟨(by with_reducible repeat first|assumption|apply rZ|refine rP ?_ rfl (by simp [go_sem,hc2,z1_1,hc1,z2_1])),(by with_reducible repeat first|assumption|apply rZ|refine rP ?_ rfl (by simp [go_sem,hc2,z1_1,hc1,z2_1]))⟩ bi)
end
section
variable {w:World} {l a b:List UInt8} {mass:Int}
theorem jbI {k:Int} (hE:Env w) (hl:l.length < 4294967281) (hk:mst l=k):Calls Tryz.prog 67 #[bs l] w fun e w'=>e= .returned (.int .i64 k)∧Below w.heap.size w w':=by
 have HE:=qh hE;obtain ⟨k0,hk0⟩:∃k,chk l=k:=⟨_,rfl⟩
 have HC:Hid (∀W (A:Option Addr) (n c:Nat),Below w.heap.size w W→Sv W A n [l]→n≤100000→Calls Tryz.prog 44 #[.slice A n c] W fun e w'=>e= .returned (.int .i64 k0)∧Below W.heap.size W w'):=qh (fun W A n c hb hs hn=>
  jmp (hE.below hb) hs hn (fun x hx=>List.mem_singleton.1 hx ▸ hl) (by rw [←hk0];unfold jar jar;split <;> simp_all))
 unfold mst at hk;by_cases h0:k0=0
 ·subst h0;rw [if_pos hk0] at hk;have HX:=qh (jjb hk0);obtain ⟨x,hx⟩:∃x,numQ l=x:=⟨_,rfl⟩;rw [hx] at HX hk;obtain ⟨b,hb⟩:∃b,decide (0≤x∧x < 100)=b:=⟨_,rfl⟩;have HB:=qh hb;have HZ:=qh HX.out.sz
  have HW:Hid ((if !b then (3:Int) else 0)=k):=qh (by
   rw [←hk,←hb];by_cases q:x < 0∨100≤x
   ·rw [if_pos q,decide_eq_false (fun e=>q.elim (fun h=>Rat.not_lt.2 e.1 h) (fun h=>Rat.not_lt.2 h e.2))];rfl
   ·rw [if_neg q,decide_eq_true ⟨Rat.not_lt.1 fun h=>q (.inl h),Rat.not_le.1 fun h=>q (.inr h)⟩];rfl)
  clear hE hl hk hk0 hx hb;go_enter Tryz.func67,Tryz.ntmps67;go_wp2_with (first|(go_at_call 44;(with_reducible refine mo0 (HC.out _ _ _ _ bi (Sv.one w _ l) (by omega)) fun w1 hb1 hc1 hf1 _=> ?_))|(go_at_call 30;(with_reducible refine mf0 (jaz HX.out (HE.out.below bi)) fun w2 s2 A2 n2 c2 t2 B2 m2 d2 hr2 hq2 hb2 hc2 hf2 _=> ?_))|(go_at_call 46;(with_reducible refine mo0 (jsn ⟨hr2,hq2⟩ HZ.out (by omega) HB.out) fun w3 hb3 hc3 hf3 _=> ?_))|(go_at_call 43;(with_reducible refine mo0 (jap HW.out) fun w4 hb4 hc4 hf4 _=> ?_)))
  go_ret;exact ⟨rfl,bi⟩
 ·rw [if_neg (by rw [hk0];exact h0),hk0] at hk;subst hk;have q1:(k0 != 0)=true:=by rw [bne_iff_ne];exact h0
  clear hE hl hk0 h0;go_enter Tryz.func67,Tryz.ntmps67;go_wp2_with (go_at_call 44;(with_reducible refine mo0 (HC.out _ _ _ _ bi (Sv.one w _ l) (by omega)) fun w1 hb1 hc1 hf1 _=> ?_))
  go_ret;exact ⟨rfl,bi⟩
def jbr (m:Int):Int:=if m < 1∨999999999 < m then 3 else 0
noncomputable def jlB (m:Int) (a b:List UInt8):Int:=if jbr m=0 then (if mst a=0 then mst b else mst a) else jbr m
noncomputable def jhc (m:Int) (a b:List UInt8):Int:=if jlB m a b=0 then (if numQ a < numQ b then 11 else 0) else jlB m a b
theorem jeF {a:List UInt8} (h:mst a=0):IsMoist a (numQ a):=by
 unfold mst at h;by_cases h0:chk a=0
 ·rw [if_pos h0] at h;have hx:=jjb h0;by_cases h1:numQ a < 0∨100≤numQ a
  ·rw [if_pos h1] at h;cases h
  ·exact ⟨hx,Rat.not_lt.1 fun e=>h1 (.inl e),Rat.not_le.1 fun e=>h1 (.inr e)⟩
 ·rw [if_neg h0] at h;exact absurd h h0
theorem jeg {m:Int} (h:jlB m a b=0):(1≤m∧m≤999999999)∧IsMoist a (numQ a)∧IsMoist b (numQ b):=by
 unfold jlB at h;by_cases h0:jbr m=0
 ·rw [if_pos h0] at h;by_cases h1:mst a=0
  ·rw [if_pos h1] at h;refine ⟨?_,jeF h1,jeF h⟩;unfold jbr at h0;by_cases q:m < 1∨999999999 < m
   ·rw [if_pos q] at h0;cases h0
   ·omega
  ·rw [if_neg h1] at h;exact absurd h h1
 ·rw [if_neg h0] at h;exact absurd h h0
theorem jcg {m:Int} (h:jhc m a b=0):(1≤m∧m≤999999999)∧IsMoist a (numQ a)∧IsMoist b (numQ b)∧numQ b≤numQ a:=by
 unfold jhc at h;by_cases h0:jlB m a b=0
 ·rw [if_pos h0] at h;obtain ⟨h1,h2,h3⟩:=jeg h0;by_cases q:numQ a < numQ b
  ·rw [if_pos q] at h;cases h
  ·exact ⟨h1,h2,h3,Rat.not_lt.1 q⟩
 ·rw [if_neg h0] at h;exact absurd h h0
theorem jh7 {k:Int} (hk:jbr mass=k):Calls Tryz.prog 66 #[.int .i64 mass] w fun e w'=>e= .returned (.int .i64 k)∧Below w.heap.size w w':=by
 unfold jbr at hk;by_cases h1:mass < 1
 ·rw [if_pos (.inl h1)] at hk;subst hk;have p1:decide (mass < 1)=true:=by rw [decide_eq_true_iff];omega
  go_enter Tryz.func66,Tryz.ntmps66;go_wp2_with (go_at_call 43;(with_reducible refine mo0 (jap (b:=true) (k:=3) (r:=3) rfl) fun w4 hb4 hc4 hf4 _=> ?_))
  go_ret;exact ⟨rfl,bi⟩
 ·have p1:decide (mass < 1)=false:=by rw [decide_eq_false_iff_not];omega
  by_cases h2:999999999 < mass
  ·rw [if_pos (.inr h2)] at hk;subst hk;have p2:decide (999999999 < mass)=true:=by rw [decide_eq_true_iff];omega
   go_enter Tryz.func66,Tryz.ntmps66;go_wp2_with (go_at_call 43;(with_reducible refine mo0 (jap (b:=true) (k:=3) (r:=3) rfl) fun w4 hb4 hc4 hf4 _=> ?_))
   go_ret;exact ⟨rfl,bi⟩
  ·rw [if_neg (by omega)] at hk;subst hk;have p2:decide (999999999 < mass)=false:=by rw [decide_eq_false_iff_not];omega
   go_enter Tryz.func66,Tryz.ntmps66;go_wp2_with (go_at_call 43;(with_reducible refine mo0 (jap (b:=false) (k:=3) (r:=0) rfl) fun w4 hb4 hc4 hf4 _=> ?_))
   go_ret;exact ⟨rfl,bi⟩
noncomputable def jlG (m:Int) (a b:List UInt8):Nat→Int
 | 0=>jbr m
 | i+1=>if jlG m a b i=0 then mst ([a,b].getD i []) else jlG m a b i
theorem jq3 (m:Int) (a b:List UInt8):jlG m a b 2=jlB m a b:=by
 have e1:jlG m a b 1=if jbr m=0 then mst a else jbr m:=rfl
 have e2:jlG m a b 2=if jlG m a b 1=0 then mst b else jlG m a b 1:=rfl
 rw [e2,e1];unfold jlB;by_cases h0:jbr m=0
 ·rw [if_pos h0,if_pos h0]
 ·rw [if_neg h0,if_neg h0,if_neg h0]
theorem jcC {k:Int} (hE:Env w) (hla:a.length < 4294967281) (hlb:b.length < 4294967281) (hk:jhc mass a b=k):Calls Tryz.prog 29 #[.int .i64 mass,bs a,bs b] w fun e w'=>e= .returned (.int .i64 k)∧Below w.heap.size w w':=by
 have HE:=qh hE;have HK:=qh hk;obtain ⟨k0,hk0⟩:∃k,jbr mass=k:=⟨_,rfl⟩;have HM:=qh (fun W=>jh7 (w:=W) hk0);have HMO:=qh (fun l (h:l=a∨l=b) W (hb:Below w.heap.size w W)=>jbI (l:=l) (hE.below hb) (by rcases h with rfl|rfl <;> assumption) rfl);have HK0:=qh hk0;clear hE hla hlb hk hk0;go_enter Tryz.func29,Tryz.ntmps29;go_upto_region 2 with (go_at_call 66;(with_reducible refine mo0 (HM.out _) fun w1 hb1 hc1 hf1 _=> ?_))
 go_wp2;have bU:Below w.heap.size w (w1.alloc (.cells #[bs a,bs b] 23)):=bi;have HSV:=qh (Sv.two w1 23 a b);obtain ⟨U,hU⟩:∃U,w1.alloc (.cells #[bs a,bs b] 23)=U:=⟨_,rfl⟩;rw [hU] at bU HSV ⊢;obtain ⟨p,hp⟩:∃p,w1.heap.size=p:=⟨_,rfl⟩;rw [hp] at HSV ⊢;have HBU:=qh bU;clear hU hp hc1 hf1 bU
 go_loopw [7,16] (fun e u wr=>∃(i:Nat),e= .int .i64 (jlG mass a b i)∧u= .int .i64 (i:Int)∧i≤2∧Below U.heap.size U wr) (fun _ u _=>2 - (intOf u).toNat)
 case atStart=>exact ⟨0,by rw [←HK0.out];rfl,rfl,by omega,Below.refl _ _⟩
 case round=>
  obtain ⟨i,rfl,rfl,hin,hb⟩:=hrel;have _:=bm hb;by_cases hi:i < 2
  ·have q0:decide ((i:Int) < 2)=true:=by rw [decide_eq_true_iff];omega
   have q9:decide (i < 2)=true:=by simpa using hi
   obtain ⟨b',o',e,hbl,hcell⟩:=(HSV.out.below hb).at_ (by omega);have hx:=hcell i hi;cases e
   rw [Nat.zero_add] at hx;obtain ⟨x,hxx⟩:∃x,[a,b].getD i []=x:=⟨_,rfl⟩
   have hxab:x=a∨x=b:=by
    rw [←hxx];rcases (show i=0∨i=1 by omega) with rfl|rfl
    ·exact .inl rfl
    ·exact .inr rfl
   have hl:jlG mass a b (i+1)=if jlG mass a b i=0 then mst x else jlG mass a b i:=by rw [←hxx];rfl
   rw [hxx] at hx;obtain ⟨z,hz⟩:∃z,jlG mass a b i=z:=⟨_,rfl⟩;rw [hz] at hl ⊢;have HMX:=qh (HMO.out x hxab wr (ja0 HBU.out hb));have HI:=qh hi;clear hcell hxx hxab hz;by_cases h0:z=0
   ·subst h0;rw [if_pos rfl] at hl;have HL:=qh hl;clear hl;go_wp2_with (go_at_call 67;(with_reducible refine mo0 (HMX.out) fun w2 hb2 hc2 hf2 _=> ?_))
    exact ⟨⟨i+1,by rw [HL.out],by simp,HI.out,ja0 hb bi⟩,by have:=HI.out;simp [intOf];omega⟩
   ·rw [if_neg h0] at hl;have q1:(z==0)=false:=by rw [beq_eq_false_iff_ne];exact h0
    have HL:=qh hl;clear hl h0;go_wp2;exact ⟨⟨i+1,by rw [HL.out],by simp,HI.out,ja0 hb bi⟩,by have:=HI.out;simp [intOf];omega⟩
  ·have q0:decide ((i:Int) < 2)=false:=by rw [decide_eq_false_iff_not];omega
   have q9:decide (i < 2)=false:=by simpa using hi
   obtain rfl:i=2:=by omega
   rw [jq3];have hk:=HK.out;unfold jhc at hk;obtain ⟨z,hz⟩:∃z,jlB mass a b=z:=⟨_,rfl⟩;rw [hz] at hk ⊢;have bW:=ja0 HBU.out hb;by_cases h0:z=0
   ·subst h0;obtain ⟨_,hx,hy⟩:=jeg hz;rw [if_pos rfl] at hk;obtain ⟨x,hxx⟩:∃x,numQ a=x:=⟨_,rfl⟩;obtain ⟨y,hyy⟩:∃x,numQ b=x:=⟨_,rfl⟩;rw [hxx] at hx hk;rw [hyy] at hy hk;obtain ⟨j,hj⟩:∃j,Rq.cmpQ y x=j:=⟨_,rfl⟩;have HJ:=qh hj;have HX:=qh hx.num;have HY:=qh hy.num;have HX2:=qh hx.num.sz;have HY2:=qh hy.num.sz;obtain ⟨g,hg⟩:∃g,decide (0 < j)=g:=⟨_,rfl⟩
    have HW:Hid ((if g then (11:Int) else 0)=k):=qh (by
     rw [←hk,←hg,←hj];by_cases q:x < y
     ·rw [if_pos q,decide_eq_true (Rq.cmp_pos.2 q)];rfl
     ·rw [if_neg q,decide_eq_false (fun e=>q (Rq.cmp_pos.1 e))];rfl)
    clear hk hz hx hy hxx hyy hj hin hi;go_wp2_with (first|(go_at_call 30;(with_reducible show Calls _ _ #[bs b] _ _);(with_reducible refine mf0 (jaz HY.out (HE.out.below (ja0 bW bi))) fun w3 s3 A3 n3 c3 t3 B3 m3 d3 hr3 hq3 hb3 hc3 hf3 _=> ?_))|(go_at_call 30;(with_reducible show Calls _ _ #[bs a] _ _);(with_reducible refine mf0 (jaz HX.out (HE.out.below (ja0 bW bi))) fun w4 s4 A4 n4 c4 t4 B4 m4 d4 hr4 hq4 hb4 hc4 hf4 _=> ?_))|(go_at_call 31;(with_reducible refine mo0 (jd7 600 600 HJ.out ⟨(by with_reducible repeat first|assumption|apply rZ|refine rP ?_ rfl (by simp [go_sem,hc4])),(by with_reducible repeat first|assumption|apply rZ|refine rP ?_ rfl (by simp [go_sem,hc4]))⟩ ⟨hr4,hq4⟩ HY2.out HX2.out (by omega)) fun w5 hb5 hc5 hf5 _=> ?_))|(go_at_call 43;(with_reducible refine mo0 (jap HW.out) fun w6 hb6 hc6 hf6 _=> ?_)))
    go_ret;exact ⟨rfl,ja0 bW bi⟩
   ·rw [if_neg h0] at hk;subst hk;have q1:(z==0)=false:=by rw [beq_eq_false_iff_ne];exact h0
    clear h0 hz hin hi;go_wp2;go_ret;exact ⟨rfl,ja0 bW bi⟩
end
end Go.Proofs.YtlcbfkiknejdnaaGreatDoor
