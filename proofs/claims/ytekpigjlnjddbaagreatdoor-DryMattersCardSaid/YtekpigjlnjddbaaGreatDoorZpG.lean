/- Parts. -/
import Derived.Test.YtekpigjlnjddbaaGreatDoorZmG
import Derived.Test.YtekpigjlnjddbaaGreatDoorCards
import Derived.Test.YtekpigjlnjddbaaGreatDoorTie
import Derived.ChangeMaps5
import Derived.ChangeSame
import Derived.SliceStrings
set_option linter.all false
set_option maxRecDepth 100000
set_option maxHeartbeats 8000000
namespace Go.Proofs.YtekpigjlnjddbaaGreatDoor
open Go Go.RowKit

theorem jwJ {m m':Int} {x x' y:Rat} (h:(m:Rat)*(100 - x)=(m':Rat)*(100 - x')):crN m x y=crN m' x' y:=by unfold crN;rw [h]
theorem jwL {m m':Int} {x x' y:Rat} (h:(m:Rat)*(100 - x)=(m':Rat)*(100 - x')):crX m x y=crX m' x' y:=by unfold crX;rw [jwJ h,h]
structure Once (mass N:Int) (x y z:Rat):Prop where
 back:(N:Rat)*(100 - z)=(mass:Rat)*(100 - x)
 low:y≤z
 high:z≤x
 less:((N - 1:Int):Rat)*(100 - y) < (mass:Rat)*(100 - x)
theorem Ceil.once {mass N:Int} {x y z:Rat} (h:Ceil mass N x y) (hz:100 - (mass:Rat)*(100 - x) / (N:Rat)=z):Once mass N x y z:=by
 obtain ⟨c1,c2⟩:=h.le;have hx:0 < 100 - x:=by have:=h.hx;grind
 have hy:0 < 100 - y:=by have:=h.hx;have:=h.hyx;grind
 have hN:(1:Rat)≤(N:Rat):=by exact_mod_cast c1
 have hNm:(N:Rat)≤(mass:Rat):=by exact_mod_cast c2
 obtain ⟨P,hP⟩:∃P,(mass:Rat)*(100 - x) / (100 - y)=P:=⟨_,rfl⟩;obtain ⟨Q,hQ⟩:∃Q,(mass:Rat)*(100 - x) / (N:Rat)=Q:=⟨_,rfl⟩;have eP:P*(100 - y)=(mass:Rat)*(100 - x):=by rw [←hP];grind
 have eQ:Q*(N:Rat)=(mass:Rat)*(100 - x):=by rw [←hQ];grind
 have hn:=h.eq;rw [hP] at hn
 have f1:P≤(N:Rat):=by
  have h1:(((-P).floor:Int):Rat)≤ -P:=Rat.le_floor_iff.1 (Int.le_refl _);have h2:((N:Int):Rat)= -(((-P).floor:Int):Rat):=by rw [←hn,Rat.intCast_neg]
  rw [h2]
  grind
 have f2:((N - 1:Int):Rat) < P:=by
  refine Rat.not_le.1 fun h1=> ?_
  have h2: -(N - 1)≤(-P).floor:=Rat.le_floor_iff.2 (by rw [Rat.intCast_neg];grind);omega
 rw [hQ] at hz;have eD:100 - z=Q:=by rw [←hz];grind
 refine ⟨by rw [eD,←eQ];grind, ?_, ?_, ?_⟩
 ·refine Rat.not_lt.1 fun q=> ?_
  have h1:100 - y < Q:=by rw [←eD];grind
  have h2:=Rat.mul_lt_mul_of_pos_right h1 (show (0:Rat) < (N:Rat) by grind);have h3:=Rat.mul_le_mul_of_nonneg_right f1 (Rat.le_of_lt hy);rw [eQ] at h2;rw [eP] at h3
  grind
 ·refine Rat.not_lt.1 fun q=> ?_
  have h1:Q < 100 - x:=by rw [←eD];grind
  have h2:=Rat.mul_lt_mul_of_pos_right h1 (show (0:Rat) < (N:Rat) by grind);have h3:=Rat.mul_le_mul_of_nonneg_right hNm (Rat.le_of_lt hx);rw [eQ] at h2
  grind
 ·rw [←eP];exact Rat.mul_lt_mul_of_pos_right f2 hy
section
variable {mass:Int} {x:Rat} {ls:List (List UInt8)} {i n k:Nat} {a:List UInt8}
theorem jwC (h0:StI mass x ls k 0) (hk:0 < k) (hl:∀l∈ls,l.length≤k) (hn:n≤ls.length) (he:∀j,j < n→stE mass x ls j=0):∀i,i≤n→((stp mass x ls i).1:Rat)*(100 - (stp mass x ls i).2)=(mass:Rat)*(100 - x)∧(stp mass x ls i).2≤x
 | 0,_=>⟨rfl,Rat.le_refl⟩
 | i+1,hi=>by
   obtain ⟨e1,e2⟩:=jwC h0 hk hl hn he i (by omega);have hI:=h0.all hk hl he i (by omega);have hmem:ls.getD i []∈ls:=by rw [List.getD_eq_getElem?_getD,List.getElem?_eq_getElem (by omega)];exact List.getElem_mem _
   obtain ⟨_,hc,_⟩:=hI.step hk (hl _ hmem) (he i (by omega));have ho:=hc.once (z:=(stp mass x ls (i+1)).2) rfl;exact ⟨ho.back.trans e1,Rat.le_trans ho.high e2⟩
theorem jwH (h0:StI mass x ls k 0) (hk:0 < k) (hl:∀l∈ls,l.length≤k) (hn:n=ls.length) (h1:0 < n) (he:∀j,j < n→stE mass x ls j=0):
  IsMoist (ls.getD (n - 1) []) (numQ (ls.getD (n - 1) []))∧numQ (ls.getD (n - 1) [])≤x∧(stp mass x ls n).1=crN mass x (numQ (ls.getD (n - 1) []))∧(stp mass x ls n).2=crX mass x (numQ (ls.getD (n - 1) [])):=by
 obtain ⟨j,rfl⟩:∃j,n=j+1:=⟨n - 1,by omega⟩;have e:j+1 - 1=j:=by omega
 rw [e];obtain ⟨e1,e2⟩:=jwC h0 hk hl (by omega) he j (by omega);have hI:=h0.all hk hl he j (by omega);have hmem:ls.getD j []∈ls:=by rw [List.getD_eq_getElem?_getD,List.getElem?_eq_getElem (by omega)];exact List.getElem_mem _
 obtain ⟨hm,hc,_⟩:=hI.step hk (hl _ hmem) (he j (by omega));exact ⟨hm,Rat.le_trans hc.hyx e2,jwJ e1,jwL e1⟩
theorem jwK {l:List UInt8} {y:Rat} (h:IsMoist l y):mst l=0:=by
 have e:=h.num.numQ;unfold mst;rw [if_pos (jjL.2 ⟨y,h.num⟩),e,if_neg (fun q=>q.elim (fun q=>Rat.not_lt.2 h.low q) (fun q=>Rat.not_le.2 h.high q))]
theorem jwI {R:List Int×List (List UInt8)×Int} (hR:stR mass a ls n=R) (h2:R.2.2=0) (hn:n=ls.length) (h1:0 < n) (hla:a.length≤30) (hll:∀l∈ls,l.length≤30):
  jhc mass a (ls.getD (n - 1) [])=0∧R.1.length=n∧R.2.1.length=n∧R.1.getD (n - 1) 0=crN mass (numQ a) (numQ (ls.getD (n - 1) []))∧R.2.1.getD (n - 1) []=tq (crX mass (numQ a) (numQ (ls.getD (n - 1) []))):=by
 unfold stR at hR;by_cases h0:stB mass a n=0
 ·rw [if_pos h0] at hR;by_cases hf:jar (stE mass (numQ a) ls) (List.range n)=0
  ·rw [if_pos hf] at hR;by_cases hg:(stX mass (numQ a) ls n).any je3=true
   ·rw [if_pos hg] at hR;rw [←hR] at h2;cases h2
   ·rw [if_neg hg] at hR;obtain ⟨hm0,ha0,_⟩:=je6 h0;obtain ⟨m1,m2⟩:=jg9 hm0;have hx:=jeF ha0;have hst:=StI.zero (ls:=ls) m1 m2 hx.high (hx.num.dzl hla (by omega));have he:∀j,j < n→stE mass (numQ a) ls j=0:=fun j hj=>jdI hf j (List.mem_range.2 hj)
    obtain ⟨g1,g2,g3,g4⟩:=jwH hst (by omega) hll hn h1 he;refine ⟨?_,by rw [←hR];exact js4,by rw [←hR];simp [jsH], ?_, ?_⟩
    ·unfold jhc jlB;rw [if_pos hm0,if_pos ha0,jwK g1,if_pos rfl,if_neg (Rat.not_lt.2 g2)]
    ·rw [←hR,←g3];unfold stM;simp only [List.getD_eq_getElem?_getD,List.getElem?_map,List.getElem?_range (show n - 1 < n by omega),Option.map_some,Option.getD_some,Nat.sub_add_cancel h1]
    ·rw [←hR,←g4];unfold stX;simp only [List.map_map,List.getD_eq_getElem?_getD,List.getElem?_map,List.getElem?_range (show n - 1 < n by omega),Option.map_some,Option.getD_some,Function.comp,Nat.sub_add_cancel h1]
  ·rw [if_neg hf] at hR;rw [←hR] at h2;exact absurd h2 hf
 ·rw [if_neg h0] at hR;rw [←hR] at h2;exact absurd h2 h0
end

section
variable {w:World} {A:Option Addr} {n c:Nat} {a:List UInt8} {ls:List (List UInt8)} {mass:Int}
theorem jwB (hE:Env w) (h:Sv w A n ls) (hn:n < 9223372036854775808) (hb:jtT a ls=false∨n=0∨6 < n):
  Calls Tryz.prog 3 #[.int .i64 mass,bs a, .slice A n c] w fun e w'=>e= .returned (.bool true)∧Below w.heap.size w w':=by
 have HA:=qh (fun W (hb:Below w.heap.size w W)=>hE.awake6 hb);obtain ⟨f1,hf1⟩:∃f,decide (a.length≤30)=f:=⟨_,rfl⟩;obtain ⟨f2,hf2⟩:∃f,(ls.all fun l=>decide (l.length≤30))=f:=⟨_,rfl⟩;have HF1:Hid (∀W (A:Option Addr) (n c:Nat),Sv W A n [a]→n≤100→Calls Tryz.prog 4 #[.slice A n c] W fun e w'=>e= .returned (.bool f1)∧Below W.heap.size W w'):=qh (fun W A n c hs hn=>jgr hs (by omega) (by rw [List.all_cons,hf1];simp));have HF2:=qh (fun W (hb:Below w.heap.size w W)=>jgr (c:=c) (h.below hb) hn hf2);unfold jtT at hb;rw [hf1,hf2] at hb;clear hE h hf1 hf2;cases f1 with
 | false=>
   clear hb hn;go_enter Tryz.func3,Tryz.ntmps3;go_wp2_with (first|(go_at_call 4;(with_reducible show Calls _ _ #[.slice (some ⟨w.heap.size,0,none⟩) 1 1] _ _);(with_reducible refine mo0 (HF1.out _ _ _ _ (Sv.one w _ a) (by omega)) fun w1 hb1 hc1 hf1 _=> ?_))|(go_at_call 4;(with_reducible refine mo0 (HF2.out _ bi) fun w2 hb2 hc2 hf2 _=> ?_))|(go_at_call 5;(with_reducible refine mo0 (HA.out _ bi) fun w3 hb3 hc3 hf3 _=> ?_)))
   go_ret;exact ⟨rfl,bi⟩
 | true=>
   cases f2 with
   | false=>
     clear hb hn;go_enter Tryz.func3,Tryz.ntmps3;go_wp2_with (first|(go_at_call 4;(with_reducible show Calls _ _ #[.slice (some ⟨w.heap.size,0,none⟩) 1 1] _ _);(with_reducible refine mo0 (HF1.out _ _ _ _ (Sv.one w _ a) (by omega)) fun w1 hb1 hc1 hf1 _=> ?_))|(go_at_call 4;(with_reducible refine mo0 (HF2.out _ bi) fun w2 hb2 hc2 hf2 _=> ?_))|(go_at_call 5;(with_reducible refine mo0 (HA.out _ bi) fun w3 hb3 hc3 hf3 _=> ?_)))
     go_ret;exact ⟨rfl,bi⟩
   | true=>
     have hb:n=0∨6 < n:=by
      rcases hb with h|h
      ·cases h
      ·exact h
     rcases hb with rfl|h
     ·clear hn;go_enter Tryz.func3,Tryz.ntmps3;go_wp2_with (first|(go_at_call 4;(with_reducible show Calls _ _ #[.slice (some ⟨w.heap.size,0,none⟩) 1 1] _ _);(with_reducible refine mo0 (HF1.out _ _ _ _ (Sv.one w _ a) (by omega)) fun w1 hb1 hc1 hf1 _=> ?_))|(go_at_call 4;(with_reducible refine mo0 (HF2.out _ bi) fun w2 hb2 hc2 hf2 _=> ?_))|(go_at_call 5;(with_reducible refine mo0 (HA.out _ bi) fun w3 hb3 hc3 hf3 _=> ?_)))
      go_ret;exact ⟨rfl,bi⟩
     ·have p1:((n:Int)==0)=false:=by rw [beq_eq_false_iff_ne];omega
      have p2:decide ((6:Int) < (n:Int))=true:=by rw [decide_eq_true_iff];omega
      clear h hn;go_enter Tryz.func3,Tryz.ntmps3;go_wp2_with (first|(go_at_call 4;(with_reducible show Calls _ _ #[.slice (some ⟨w.heap.size,0,none⟩) 1 1] _ _);(with_reducible refine mo0 (HF1.out _ _ _ _ (Sv.one w _ a) (by omega)) fun w1 hb1 hc1 hf1 _=> ?_))|(go_at_call 4;(with_reducible refine mo0 (HF2.out _ bi) fun w2 hb2 hc2 hf2 _=> ?_))|(go_at_call 5;(with_reducible refine mo0 (HA.out _ bi) fun w3 hb3 hc3 hf3 _=> ?_)))
      go_ret;exact ⟨rfl,bi⟩
theorem jwz {R:List Int×List (List UInt8)×Int} (hE:Env w) (h:Sv w A n ls) (hm:jtT a ls=true) (h1:0 < n) (h6:n≤6) (hR:stR mass a ls n=R) (h0:R.2.2≠0):
  Calls Tryz.prog 3 #[.int .i64 mass,bs a, .slice A n c] w fun e w'=>e= .returned (.bool true)∧Below w.heap.size w w':=by
 unfold jtT at hm;rw [Bool.and_eq_true,decide_eq_true_iff] at hm;obtain ⟨hla,hal⟩:=hm;have hll:∀l∈ls,l.length≤30:=fun l hl=>by simpa using List.all_eq_true.1 hal l hl
 have HA:=qh (fun W (hb:Below w.heap.size w W)=>hE.awake6 hb);have HF1:Hid (∀W (A:Option Addr) (n c:Nat),Sv W A n [a]→n≤100→Calls Tryz.prog 4 #[.slice A n c] W fun e w'=>e= .returned (.bool true)∧Below W.heap.size W w'):=qh (fun W A n c hs hn=>jgr hs (by omega) (by rw [List.all_cons,decide_eq_true hla];rfl));have HF2:=qh (fun W (hb:Below w.heap.size w W)=>jgr (c:=c) (h.below hb) (by omega) hal);have HRS:=qh (fun W (hb:Below w.heap.size w W)=>jkN (c:=c) (h.below hb) hla hll (.inl h6) hR);obtain ⟨Ms,Ts,kr⟩:=R;have p1:((n:Int)==0)=false:=by rw [beq_eq_false_iff_ne];omega
 have p2:decide ((6:Int) < (n:Int))=false:=by rw [decide_eq_false_iff_not];omega
 have q1:(kr != 0)=true:=by rw [bne_iff_ne];exact h0
 clear hE h hla hal hll h1 h6 hR h0;go_enter Tryz.func3,Tryz.ntmps3;go_wp2_with (first|(first|(go_at_call 4;(with_reducible show Calls _ _ #[.slice (some ⟨w.heap.size,0,none⟩) 1 1] _ _);(with_reducible refine mo0 (HF1.out _ _ _ _ (Sv.one w _ a) (by omega)) fun w1 hb1 hc1 hf1 _=> ?_))|(go_at_call 4;(with_reducible refine mo0 (HF2.out _ bi) fun w2 hb2 hc2 hf2 _=> ?_))|(go_at_call 5;(with_reducible refine mo0 (HA.out _ bi) fun w3 hb3 hc3 hf3 _=> ?_)))|(go_at_call 6;(with_reducible refine (HRS.out _ bi).mono ?_);rintro e9 w9 ⟨A9,n9,c9,B9,m9,d9,rfl,hr9,hb9⟩;obtain ⟨hc9,hf9,_⟩:=bc0 hb9))
 go_ret;exact ⟨rfl,bi⟩
set_option maxHeartbeats 16000000 in
theorem jwx {R:List Int×List (List UInt8)×Int} (hE:Env w) (h:Sv w A n ls) (hm:jtT a ls=true) (h1:0 < n) (h6:n≤6) (hR:stR mass a ls n=R) (h0:R.2.2=0):
  Calls Tryz.prog 3 #[.int .i64 mass,bs a, .slice A n c] w fun e w'=>e= .returned (.bool true)∧Below w.heap.size w w':=by
 unfold jtT at hm;rw [Bool.and_eq_true,decide_eq_true_iff] at hm;obtain ⟨hla,hal⟩:=hm;have hll:∀l∈ls,l.length≤30:=fun l hl=>by simpa using List.all_eq_true.1 hal l hl
 have HA:=qh (fun W (hb:Below w.heap.size w W)=>hE.awake6 hb);have HF1:Hid (∀W (A:Option Addr) (n c:Nat),Sv W A n [a]→n≤100→Calls Tryz.prog 4 #[.slice A n c] W fun e w'=>e= .returned (.bool true)∧Below W.heap.size W w'):=qh (fun W A n c hs hn=>jgr hs (by omega) (by rw [List.all_cons,decide_eq_true hla];rfl));have HF2:=qh (fun W (hb:Below w.heap.size w W)=>jgr (c:=c) (h.below hb) (by omega) hal);have HRS:=qh (fun W (hb:Below w.heap.size w W)=>jkN (c:=c) (h.below hb) hla hll (.inl h6) hR);have HS:=qh (fun W (hb:Below w.heap.size w W)=>jmP (c:=c) (hE.below hb) (h.below hb) hla hll (.inl h6) hR);obtain ⟨hw0,hn1,hn2,hMs,hTs⟩:=jwI hR h0 h.len.symm h1 hla hll;obtain ⟨t,ht⟩:∃t,ls.getD (n - 1) []=t:=⟨_,rfl⟩
 have hlt:t.length≤30:=by
  rw [←ht];exact hll _ (by rw [List.getD_eq_getElem?_getD,List.getElem?_eq_getElem (by rw [h.len];omega)];exact List.getElem_mem _)
 rw [ht] at hw0 hMs hTs;obtain ⟨⟨m1,m2⟩,hx,hy,hle⟩:=jcg hw0;have dx:=hx.num.dzl hla (by omega);have dy:=hy.num.dzl hlt (by omega);have dm:=dzm m1 m2;have hy1:=jlX hy.high;obtain ⟨x,hxx⟩:∃x,numQ a=x:=⟨_,rfl⟩;obtain ⟨y,hyy⟩:∃x,numQ t=x:=⟨_,rfl⟩;have ea:a=tq x:=by rw [←hxx];exact hx.num.eq
 have et:t=tq y:=by rw [←hyy];exact hy.num.eq
 obtain ⟨N,hN⟩:∃N,crN mass x y=N:=⟨_,rfl⟩;obtain ⟨z,hz⟩:∃z,crX mass x y=z:=⟨_,rfl⟩;rw [hxx,hyy,hN] at hMs;rw [hxx,hyy,hz] at hTs;rw [hxx] at hx dx;rw [hyy] at hy dy hy1;rw [hxx,hyy] at hle;have hC:Ceil mass N x y:=⟨hN,m1,m2,hx.high,hle⟩;obtain ⟨c1,c2⟩:=hC.le;have hz':100 - (mass:Rat)*(100 - x) / (N:Rat)=z:=by rw [←hz,←hN];rfl
 have ho:=hC.once hz'
 have hN0:((N:Int):Rat)≠0:=by
  intro e;have:N=0:=by exact_mod_cast e
  omega
 have dN:=dzm c1 (by omega);have dz:Dz 200 z:=hz' ▸ (jc9.sub ((dm.mul (jc9.sub dx)).div dN hN0)).mono (by omega);obtain ⟨v,hv⟩:∃v,(mass:Rat)*(x - y) / (100 - y)=v:=⟨_,rfl⟩;have dv:Dz 200 v:=hv ▸ ((dm.mul (dx.sub dy)).div (jc9.sub dy) hy1).mono (by omega);obtain ⟨gz,ez,iz⟩:=jp0 dz (by omega) (by omega);obtain ⟨gv,ev,iv⟩:=jp0 dv (by omega) (by omega);have HSH:=qh (fun W (hb:Below w.heap.size w W)=>jni (a:=a) (b:=t) (hE.below hb) (by omega) (by omega) hw0 (z:=v) (by rw [hxx,hyy];exact hv) (dv.strQ (by omega)) gv ev);have HDR:=qh (fun W (hb:Below w.heap.size w W)=>jtk (a:=a) (b:=t) (N:=N) (rn:=N) (hE.below hb) (by omega) (by omega) hw0 (by rw [hxx,hyy];exact hC) (z:=z) (by rw [hxx];exact hz') (dz.strQ (by omega)) gz ez (if_pos rfl));have lz:=jur dz (by omega);have lv:=jur dv (by omega);have HCZ:=qh (fun W=>jpl (w:=W) (jjL.2 ⟨z,iz⟩) (by omega));have HCV:=qh (fun W=>jpl (w:=W) (jjL.2 ⟨v,iv⟩) (by omega));have d1:=jc9.sub dx;have d2:=jc9.sub dz;have d3:=jc9.sub dy;have dmv:=dm.sub dv;have HFM:=qh (fun W=>jgR (w:=W) m1 m2);have HFN:=qh (fun W=>jgR (w:=W) c1 (by omega));have HFL:Hid (1 < N→∀W,Calls Tryz.prog 12 #[.int .i64 (N - 1)] W (QP (((N - 1:Int)):Rat) W)):=qh (fun h W=>jgR (by omega) (by omega));have HSX:=qh (fun W=>jg3 (w:=W) jc9 dx (by omega) (by omega) (by omega) (by omega));have HSZ:=qh (fun W=>jg3 (w:=W) jc9 dz (by omega) (by omega) (by omega) (by omega));have HSY:=qh (fun W=>jg3 (w:=W) jc9 dy (by omega) (by omega) (by omega) (by omega));have HSV:=qh (fun W=>jg3 (w:=W) dm dv (by omega) (by omega) (by omega) (by omega));have HMX:=qh (fun W=>jka (w:=W) dm d1 (by omega) (by omega) (by omega) (by omega));have HMZ:=qh (fun W=>jka (w:=W) dN d2 (by omega) (by omega) (by omega) (by omega));have HMV:=qh (fun W=>jka (w:=W) dmv d3 (by omega) (by omega) (by omega) (by omega));have HML:Hid (1 < N→∀W,Calls Tryz.prog 11 #[bs (tq (((N - 1:Int)):Rat)),bs (tq (100 - y))] W (QP ((((N - 1:Int)):Rat)*(100 - y)) W)):=qh (fun h W=>jka (dzm (by omega) (by omega)) d3 (by omega) (by omega) (by omega) (by omega));obtain ⟨j1,hj1⟩:∃j,Rq.cmpQ z y=j:=⟨_,rfl⟩;obtain ⟨j2,hj2⟩:∃j,Rq.cmpQ z x=j:=⟨_,rfl⟩;obtain ⟨j3,hj3⟩:∃j,Rq.cmpQ ((((N - 1:Int)):Rat)*(100 - y)) ((mass:Rat)*(100 - x))=j:=⟨_,rfl⟩;have HJ1:=qh (fun W=>jko (w:=W) hj1 dz dy (by omega) (by omega) (by omega) (by omega));have HJ2:=qh (fun W=>jko (w:=W) hj2 dz dx (by omega) (by omega) (by omega) (by omega));have HJ3:Hid (1 < N→∀W,Calls Tryz.prog 14 #[bs (tq ((((N - 1:Int)):Rat)*(100 - y))),bs (tq ((mass:Rat)*(100 - x)))] W fun e w'=>e= .returned (.int .i64 j3)∧Below W.heap.size W w'):=qh (fun h W=>jko hj3 ((dzm (by omega) (by omega)).mul d3) (dm.mul d1) (by omega) (by omega) (by omega) (by omega));have k1:decide (j1 < 0)=false:=by rw [decide_eq_false_iff_not,←hj1];exact fun e=>Rat.not_lt.2 ho.low (Rq.cmp_neg.1 e)
 have k2:decide (0 < j2)=false:=by rw [decide_eq_false_iff_not,←hj2];exact fun e=>Rat.not_lt.2 ho.high (Rq.cmp_pos.1 e)
 have k3:decide (0≤j3)=false:=by rw [decide_eq_false_iff_not,←hj3];have:=Rq.cmp_neg.2 ho.less;omega
 have ewet:((mass:Rat) - v)*(100 - y)=(mass:Rat)*(100 - x):=by rw [←hv];grind
 unfold QP at HFM HFN HFL HSX HSZ HSY HSV HMX HMZ HMV HML;rw [ho.back] at HMZ;rw [ewet] at HMV;rw [show tq (100:Rat)=[49,48,48] by decide+kernel] at HSX HSZ HSY;rw [←ea] at HSX HJ2;rw [←et] at HSY HJ1;obtain ⟨Z,hZ⟩:∃T,tq z=T:=⟨_,rfl⟩;obtain ⟨V,hV⟩:∃T,tq v=T:=⟨_,rfl⟩;obtain ⟨M,hM⟩:∃T,tq ((mass:Int):Rat)=T:=⟨_,rfl⟩;obtain ⟨NT,hNT⟩:∃T,tq ((N:Int):Rat)=T:=⟨_,rfl⟩;obtain ⟨NL,hNL⟩:∃T,tq (((N - 1:Int)):Rat)=T:=⟨_,rfl⟩;obtain ⟨X1,hX1⟩:∃T,tq (100 - x)=T:=⟨_,rfl⟩;obtain ⟨Z1,hZ1⟩:∃T,tq (100 - z)=T:=⟨_,rfl⟩;obtain ⟨Y1,hY1⟩:∃T,tq (100 - y)=T:=⟨_,rfl⟩;obtain ⟨V1,hV1⟩:∃T,tq ((mass:Rat) - v)=T:=⟨_,rfl⟩;obtain ⟨MT,hMT⟩:∃T,tq ((mass:Rat)*(100 - x))=T:=⟨_,rfl⟩;obtain ⟨LT,hLT⟩:∃T,tq ((((N - 1:Int)):Rat)*(100 - y))=T:=⟨_,rfl⟩;simp only [hZ,hV,hM,hNT,hNL,hX1,hZ1,hY1,hV1,hMT,hLT] at HSH HDR HCZ HCV HFM HFN HFL HSX HSZ HSY HSV HMX HMZ HMV HML HJ1 HJ2 HJ3 hTs;have p1:((n:Int)==0)=false:=by rw [beq_eq_false_iff_ne];omega
 have p2:decide ((6:Int) < (n:Int))=false:=by rw [decide_eq_false_iff_not];omega
 have p3:decide (N < 1)=false:=by rw [decide_eq_false_iff_not];omega
 have p4:decide (mass < N)=false:=by rw [decide_eq_false_iff_not];omega
 obtain ⟨Ms,Ts,kr⟩:=R;dsimp only at hMs hTs h0 hn1 hn2;subst h0;obtain ⟨b,o,rfl,hbl,hat⟩:=h.at_ h1;have hcell:=hat (n - 1) (by omega);rw [ht] at hcell;have i1:wrap64 ((n:Int) - 1)=((n - 1:Nat):Int):=by unfold wrap64;omega
 have i2:wrap64 (N - 1)=N - 1:=by unfold wrap64;omega
 have i3:n - 1 < n:=by omega
 have i5:((n - 1:Nat):Int) < (n:Int):=by omega
 have HN:=qh (And.intro h1 (And.intro h6 (And.intro hbl hcell)));have HG:=qh (And.intro hMs (And.intro hTs (And.intro hn1 hn2)));obtain ⟨g,hg⟩:∃g,decide ((1:Int) < N)=g:=⟨_,rfl⟩;have HL:Hid (g=true→1 < N):=qh (fun e=>by rw [e] at hg;exact of_decide_eq_true hg);clear hE h hla hal hll h1 h6 hR hw0 hn1 hn2 hMs hTs ht hlt m1 m2 hx hy hle dx dy dm hy1 hxx hyy ea et hN hz hC c1 c2 hz' ho hN0 dN dz hv dv gz ez iz gv ev iv lz lv d1 d2 d3 dmv hj1 hj2 hj3 ewet hZ hV hM hNT hNL hX1 hZ1 hY1 hV1 hMT hLT hbl hat hcell;go_enter Tryz.func3,Tryz.ntmps3;go_upto_region 6 with (first|(first|(go_at_call 4;(with_reducible show Calls _ _ #[.slice (some ⟨w.heap.size,0,none⟩) 1 1] _ _);(with_reducible refine mo0 (HF1.out _ _ _ _ (Sv.one w _ a) (by omega)) fun w1 hb1 hc1 hf1 _=> ?_))|(go_at_call 4;(with_reducible refine mo0 (HF2.out _ bi) fun w2 hb2 hc2 hf2 _=> ?_))|(go_at_call 5;(with_reducible refine mo0 (HA.out _ bi) fun w3 hb3 hc3 hf3 _=> ?_)))|(go_at_call 6;(with_reducible refine (HRS.out _ bi).mono ?_);rintro e4 w4 ⟨A4,n4,c4,B4,m4,d4,rfl,hr4,hb4⟩;obtain ⟨hc4,hf4,_⟩:=bc0 hb4))
 have b4:RowKit.Below w.heap.size w w4:=bi;have hnn:=HN.out;have hcell:=ja9 b4 hnn.2.2.2;have b4w:=b4;clear hb1 hb2 hb4 hc1 hc2 hc4 hf1 hf2 hf4 hr4 HF1 HF2 HRS HN hnn;go_upto_region 7 with (fail)
 go_upto_region 10 with (first|(go_at_call 7;(with_reducible refine mo0 (HDR.out _ (ja0 b4w bi)) fun w5 hb5 hc5 hf5 _=> ?_))|(go_at_call 8;(with_reducible refine mo0 (HSH.out _ (ja0 b4w bi)) fun w6 hb6 hc6 hf6 _=> ?_))|(go_at_call 9;(with_reducible refine (HS.out _ (ja0 b4w bi)).mono ?_);rintro e7 w7 ⟨A7,n7,c7,B7,m7,d7,rfl,hr7,hb7⟩;obtain ⟨hc7,hf7,_⟩:=bc0 hb7))
 obtain rfl:n7=n:=by rw [←hr7.1.len];exact HG.out.2.2.1
 obtain rfl:n7=m7:=by rw [←hr7.2.len];exact HG.out.2.2.2.symm
 obtain ⟨Ab,o7,rfl,hb8,hat8⟩:=hr7.1.at_ (by omega);have hx8:=hat8 (n7 - 1) (by omega);rw [HG.out.1] at hx8;obtain ⟨Bb,u7,rfl,hb9,hat9⟩:=hr7.2.at_ (by omega);have hx9:=hat9 (n7 - 1) (by omega);rw [HG.out.2.1] at hx9;have b7:RowKit.Below w.heap.size w w7:=ja0 b4w bi;clear hat8 hat9 hr7 hc5 hc6 hc7 hf5 hf6 hf7 hb5 hb6 hb7 hcell b4 b4w HSH HDR HS HG;have hx8:Hid _:=qh hx8;have hx9:Hid _:=qh hx9;go_upto_region 12 with (first|(go_at_call 10;(with_reducible show Calls _ _ #[bs Z] _ _);(with_reducible refine mo0 (HCZ.out _) fun w1 hb1 hc1 hf1 _=> ?_))|(go_at_call 10;(with_reducible show Calls _ _ #[bs V] _ _);(with_reducible refine mo0 (HCV.out _) fun w2 hb2 hc2 hf2 _=> ?_)))
 go_upto_region 13 with (first|(go_at_call 12;(with_reducible show Calls _ _ #[.int .i64 mass] _ _);(with_reducible refine mo0 (HFM.out _) fun w3 hb3 hc3 hf3 _=> ?_))|(go_at_call 13;(with_reducible show Calls _ _ #[bs [49,48,48],bs a] _ _);(with_reducible refine mo0 (HSX.out _) fun w4 hb4 hc4 hf4 _=> ?_))|(go_at_call 11;(with_reducible show Calls _ _ #[bs M,bs X1] _ _);(with_reducible refine mo0 (HMX.out _) fun w5 hb5 hc5 hf5 _=> ?_)))
 have b5:RowKit.Below w.heap.size w w5:=ja0 b7 bi;have e5:RowKit.Below w7.heap.size w7 w5:=bi;have hx8:=ja9 e5 hx8.out;have hx9:=ja9 e5 hx9.out;have hx8:Hid _:=qh hx8;have hx9:Hid _:=qh hx9;clear hb1 hb2 hb3 hb4 hb5 hc1 hc2 hc3 hc4 hc5 hf1 hf2 hf3 hf4 hf5 e5 HCZ HCV HSX HMX b7;go_upto_region 15 with (first|(go_at_call 12;(with_reducible show Calls _ _ #[.int .i64 N] _ _);(with_reducible refine mo0 (HFN.out _) fun w6 hb6 hc6 hf6 _=> ?_))|(go_at_call 13;(with_reducible show Calls _ _ #[bs [49,48,48],bs Z] _ _);(with_reducible refine mo0 (HSZ.out _) fun w7 hb7 hc7 hf7 _=> ?_))|(go_at_call 11;(with_reducible show Calls _ _ #[bs NT,bs Z1] _ _);(with_reducible refine mo0 (HMZ.out _) fun w8 hb8 hc8 hf8 _=> ?_))|(go_at_call 14;(with_reducible show Calls _ _ #[bs Z,bs t] _ _);(with_reducible refine mo0 (HJ1.out _) fun w9 hb9 hc9 hf9 _=> ?_))|(go_at_call 14;(with_reducible show Calls _ _ #[bs Z,bs a] _ _);(with_reducible refine mo0 (HJ2.out _) fun w10 hb10 hc10 hf10 _=> ?_)))
 have b6:RowKit.Below w.heap.size w w10:=ja0 b5 bi;have e6:RowKit.Below w5.heap.size w5 w10:=bi;have hx8:=ja9 e6 hx8.out;have hx9:=ja9 e6 hx9.out;have hx8:Hid _:=qh hx8;have hx9:Hid _:=qh hx9;clear hb6 hb7 hb8 hb9 hb10 hc6 hc7 hc8 hc9 hc10 hf6 hf7 hf8 hf9 hf10 e6 HFN HSZ HMZ HJ1 HJ2 b5
 go_cut [156] (fun v wx=>v= .bool false∧RowKit.Below w10.heap.size w10 wx)
 case first=>
  cases g with
  | false=>
    go_wp2;go_meet;exact ⟨rfl,bi⟩
  | true=>
    have hL:=HL.out rfl;have HFL2:=qh (HFL.out hL);have HML2:=qh (HML.out hL);have HJ32:=qh (HJ3.out hL);clear hL;go_wp2_with (first|(go_at_call 12;(with_reducible show Calls _ _ #[.int .i64 (N - 1)] _ _);(with_reducible refine mo0 (HFL2.out _) fun w11 hb11 hc11 hf11 _=> ?_))|(go_at_call 13;(with_reducible show Calls _ _ #[bs [49,48,48],bs t] _ _);(with_reducible refine mo0 (HSY.out _) fun w12 hb12 hc12 hf12 _=> ?_))|(go_at_call 11;(with_reducible show Calls _ _ #[bs NL,bs Y1] _ _);(with_reducible refine mo0 (HML2.out _) fun w13 hb13 hc13 hf13 _=> ?_))|(go_at_call 14;(with_reducible show Calls _ _ #[bs LT,bs MT] _ _);(with_reducible refine mo0 (HJ32.out _) fun w14 hb14 hc14 hf14 _=> ?_)))
    go_meet;exact ⟨rfl,bi⟩
 case rest=>
  rename World=>wb
  obtain ⟨rfl,hcut⟩:=hcut;have hx8:=ja9 hcut hx8.out;have hx9:=ja9 hcut hx9.out;have bW:=ja0 b6 hcut;have zb8:Ab < wb.heap.size:=World.block_lt_of_cell? wb _ hx8;have zb9:Bb < wb.heap.size:=World.block_lt_of_cell? wb _ hx9;clear hcut b6 HFL HML HJ3 HL hb8 hb9 g hg;go_wp2_with (first|((go_at_call 12;(with_reducible show Calls _ _ #[.int .i64 mass] _ _);(with_reducible refine mo0 (HFM.out _) fun w15 hb15 hc15 hf15 _=> ?_));(first|have y15_0:=szl (k:=Ab) hb15 (by first|go_size|fail)|have y15_0:=Nat.one_pos);(first|have y15_1:=szl (k:=Bb) hb15 (by first|go_size|fail)|have y15_1:=Nat.one_pos))|((go_at_call 13;(with_reducible show Calls _ _ #[bs M,bs V] _ _);(with_reducible refine mo0 (HSV.out _) fun w16 hb16 hc16 hf16 _=> ?_));(first|have y16_0:=szl (k:=Ab) hb16 (by first|go_size|fail)|have y16_0:=Nat.one_pos);(first|have y16_1:=szl (k:=Bb) hb16 (by first|go_size|fail)|have y16_1:=Nat.one_pos))|((go_at_call 13;(with_reducible show Calls _ _ #[bs [49,48,48],bs t] _ _);(with_reducible refine mo0 (HSY.out _) fun w17 hb17 hc17 hf17 _=> ?_));(first|have y17_0:=szl (k:=Ab) hb17 (by first|go_size|fail)|have y17_0:=Nat.one_pos);(first|have y17_1:=szl (k:=Bb) hb17 (by first|go_size|fail)|have y17_1:=Nat.one_pos))|((go_at_call 11;(with_reducible show Calls _ _ #[bs V1,bs Y1] _ _);(with_reducible refine mo0 (HMV.out _) fun w18 hb18 hc18 hf18 _=> ?_));(first|have y18_0:=szl (k:=Ab) hb18 (by first|go_size|fail)|have y18_0:=Nat.one_pos);(first|have y18_1:=szl (k:=Bb) hb18 (by first|go_size|fail)|have y18_1:=Nat.one_pos))|(go_at_call 5;(with_reducible refine mo0 (HA.out _ (ja0 bW bi)) fun w19 hb19 hc19 hf19 _=> ?_)))
  go_ret;exact ⟨rfl,ja0 bW bi⟩
theorem jwy (hE:Env w) (_:(Lit.int .i64 mass).wf=true) (h:Sv w A n ls) (hn:n < 9223372036854775808):
  Calls Tryz.prog 3 #[.int .i64 mass,bs a, .slice A n c] w fun e w'=>e= .returned (.bool true)∧Below w.heap.size w w':=by
 by_cases hq:jtT a ls=false∨n=0∨6 < n
 ·exact jwB hE h hn hq
 ·rw [not_or] at hq;have hm:jtT a ls=true:=by simpa using hq.1
  obtain ⟨R,hR⟩:∃R,stR mass a ls n=R:=⟨_,rfl⟩;by_cases h0:R.2.2=0
  ·exact jwx hE h hm (by omega) (by omega) hR h0
  ·exact jwz hE h hm (by omega) (by omega) hR h0
end
end Go.Proofs.YtekpigjlnjddbaaGreatDoor
namespace Go.Proofs.YtekpigjlnjddbaaGreatDoor
open Go Go.ChangeShapes Go.WideShapes Go.ChangeAt Go.RowKit Go.ChangeMaps

theorem jmJ {H:Type} {enc:TypeId×Value→H} {W:World} {sp:Nat→Bool} {held:Bool} {r:Reach} {b0 base:Nat} {t:TypeId} {v:Value} {d:DataW H} {ps:List MemPlace} (ht:Tryz.prog.underlying t=some .string) (hval:Value.okWide Tryz.prog W r b0 t v) (hd:DataW.Trod enc Tryz.prog W base sp held t v d ps):
  ∃a:List UInt8,v=bs a∧ps=[]:=by
 obtain ⟨s,rfl,_,rfl,_⟩:=open_string ht hval hd;exact ⟨s.data.toList,rfl,rfl⟩
end Go.Proofs.YtekpigjlnjddbaaGreatDoor
namespace Go.Proofs.YtekpigjlnjddbaaGreatDoor
open Go Go.ChangeShapes Go.WideShapes Go.ChangeAt Go.RowKit

theorem jpI:Tryz.prog.cellsOf 22=1:=by kernel_rfl
theorem jn6 {H:Type} {enc:TypeId×Value→H} {W:World} {A:Option Addr} {n c fuel:Nat} {x:DataW H×List MemPlace} (h:DataW.trod enc Tryz.prog W 0 (fun _=>true) true fuel 23 [.slice A n c]=some x):∃ls,Sv W A n ls∧n < 9223372036854775808:=by
 rcases open_strings Tryz.underlying23 Tryz.underlying22 jpI h with ⟨hcs,_⟩|⟨a,len,cap,ss,hcs,_,hl,hm,hz,_,hcell,_⟩
 ·simp at hcs;obtain ⟨rfl,rfl,rfl⟩:=hcs;exact ⟨[],⟨rfl,fun h=>by omega⟩,by omega⟩
 ·simp at hcs;obtain ⟨rfl,rfl,rfl⟩:=hcs;simp only [if_true] at hz;obtain ⟨b,off,spot⟩:=a;refine ⟨(List.range n).map fun i=>(ss.getD i ByteArray.empty).data.toList,⟨by simp,fun h0=> ?_⟩,by unfold maxLen at hm;omega⟩;have hspot:spot=none:=by simpa [Addr.add] using World.cell?_spot (hcell 0 (by omega))
  subst hspot;have e0:∀i,(⟨b,off,none⟩:Addr).add i=⟨b,off+i,none⟩:=fun i=>by unfold Addr.add;split <;> simp_all
  refine ⟨b,off,rfl,World.block_lt_of_cell? W _ (hcell 0 (by omega)),fun j hj=> ?_⟩;have hc:=hcell j (by omega);rw [e0] at hc;rw [hc,List.getD_eq_getElem?_getD (l:=List.map _ _),List.getElem?_map,List.getElem?_range hj,Option.map_some,Option.getD_some]

theorem jwA (os:Os):laidMet Tryz.prog Rows.dryMattersRow.laid ((World.laidAll Tryz.prog os Rows.dryMattersRow.laid).forCall (fun _ _=>0) ⟨#[], #[.int .i64 0, .string ⟨#[]⟩, .slice none 0 0],[]⟩).memory:=
 laidMet_laidAll _ (by kernel_rfl) (by kernel_rfl)
theorem jwv (os:Os) {H:Type} (enc:TypeId×Value→H):∃places,DataW.whole enc Tryz.prog ((World.laidAll Tryz.prog os Rows.dryMattersRow.laid).forCall (fun _ _=>0) ⟨#[], #[.int .i64 0, .string ⟨#[]⟩, .slice none 0 0],[]⟩).memory Tryz.f3.params.toList Rows.dryMattersSpec.vars false #[Value.int .i64 0, .string ⟨#[]⟩, .slice none 0 0].toList 8=some ([.lit (.int .i64 0), .lit (.string []), .nil],[],places):=
 ⟨[],by kernel_rfl⟩
theorem jwr (H:Type) (enc:TypeId×Value→H) (W:World) (base:Nat) (args:Array Value) (ds gs:List (DataW H)) (before:List MemPlace)
  (hval:∀(j:Nat) t v,Tryz.f3.params[j]? =some t→args[j]? =some v→Value.okWide Tryz.prog W .any base t v)
  (hW:DataW.Whole enc Tryz.prog Tryz.f3.params.toList Rows.dryMattersSpec.vars false W args.toList ds gs before) (hL:laidMetH Tryz.prog Rows.dryMattersRow.laid W) (hS:W.ShapedOpen Tryz.prog):
  Calls Tryz.prog 3 args W fun e W'=>∃v,e= .returned v∧Rows.dryMattersSpec.post enc Tryz.prog Tryz.f3 false true false false W args v W':=by
 have hE:Env W:=jtM (laidMetH.plain hL (by kernel_rfl)).tail.tail hS;have hW':=hW;obtain ⟨p,q,hA0,hV,rfl,hfz,hnd⟩:=hW;have hA:DataW.TrodAll enc Tryz.prog W 0 (fun _=>true) true Tryz.f3.params.toList args.toList ds p:=hA0;rw [Tryz.params3] at hA hval;obtain ⟨v0,v1,v2,d0,d1,d2,p0,p1,p2,rfl,rfl,rfl,h0,h1,h2⟩:=trodAll_three hA;obtain ⟨rfl,rfl⟩:=trodVars_none hV;obtain ⟨x0,rfl,rfl,rfl,wx0⟩:=open_int Tryz.underlying3 (hval 0 3 v0 rfl rfl) h0;obtain ⟨a1,rfl,rfl⟩:=jmJ Tryz.underlying22 (hval 1 22 v1 rfl rfl) h1;obtain ⟨A2,n2,c2,rfl⟩:=okWide_slice Tryz.underlying23 (hval 2 23 v2 rfl rfl);have h2k:=h2;obtain ⟨fuel2,hf2⟩:=h2;simp only [List.append_nil,List.nil_append] at hW';have hlt2:∀y∈p2,y.block < W.heap.size:=fun y hy=>by simpa using hW'.lt y (by simp [hy])
 obtain ⟨ls2,hv2,hc2⟩:=jn6 hf2;have walk:Calls Tryz.prog 3 #[.int .i64 x0,bs a1, .slice A2 n2 c2] W fun e w'=>e= .returned (.bool true)∧Below W.heap.size W w':=jwy hE wx0 hv2 hc2
 refine walk.mono fun e W' ⟨he,hb⟩=> ?_
 subst he;exact ⟨_,rfl,_,_,_,[],p2,[],hW',trodAll_mk1 (shut_bool Tryz.underlying4 _),(by have h:=trodAll_mk3 (p:=[]) (p':=[]) (p'':=p2) (Below.trod jix (by kernel_rfl) (of_decide_eq_true (by kernel_rfl)) h0 hb (fun y hy=>by cases hy)) (Below.trod jix (by kernel_rfl) (of_decide_eq_true (by kernel_rfl)) h1 hb (fun y hy=>by cases hy)) (Below.trod jix (by kernel_rfl) (of_decide_eq_true (by kernel_rfl)) h2k hb hlt2);first|exact h|(simp only [List.append_nil,List.nil_append] at h;exact h)),rfl,hb.frame _,fun h=>by cases h⟩
theorem jws (os:Os) (started:os.Started) (H:Type) (enc:TypeId×Value→H) (F:Stop.Interp):
  ReturnsInHanded {} Tryz.checked os 3 .any ((OpenSpec.ofChange Rows.dryMattersSpec).preRow enc Tryz.prog Tryz.f3 Rows.dryMattersRow.domain false Rows.dryMattersRow.laid) (((OpenSpec.ofChange Rows.dryMattersSpec).at F).post enc Tryz.prog Tryz.f3 false true false false):=by
 obtain ⟨places,hx⟩:=jwv os enc
 refine returnsInHanded_of_row (C:=Tryz.checked) (s:=OpenSpec.ofChange Rows.dryMattersSpec) own started (by kernel_rfl) Tryz.func3
  (witness_row_at (enc:=enc) (C:=Tryz.checked) false (World.laidAll Tryz.prog os Rows.dryMattersRow.laid) #[.int .i64 0, .string ⟨#[]⟩, .slice none 0 0] (World.laidAll_os _ _ _) (by kernel_rfl) (by kernel_rfl) (by kernel_rfl)
    (OpenSpec.preRow_of_cond 8 hx (by kernel_rfl) (fun k hk=>by cases hk) (by kernel_rfl) (by rw [MakeChecks.laidMetH_plain _ _ _ (by kernel_rfl)];exact jwA os))) ?_
 intro W base args ds gs before hval hW _ _ _ hL hS _;exact jwr H enc W base args ds gs before hval hW hL hS
theorem jwG:(Rows.dryMattersRow.inPlace==Tryz.pinned.checked.prog.inPlace 3)=true:=by kernel_rfl
theorem jwD:(Rows.dryMattersRow.unfollowed==Tryz.pinned.checked.prog.unfollowed 3)=true:=by kernel_rfl
theorem jwF:(Rows.dryMattersRow.recurses==Tryz.pinned.checked.prog.recurses 3)=true:=by kernel_rfl
theorem jwE:(Rows.dryMattersRow.named==Tryz.pinned.checked.prog.varsNamed 3)=true:=by kernel_rfl
theorem jwt:joinedFacts Tryz.pinned.checked.prog 3 Tryz.f3 (OpenSpec.ofChange Rows.dryMattersSpec).bare Rows.dryMattersRow=true:=by
 unfold joinedFacts;rw [jwG,jwD,jwF,jwE]
 kernel_rfl
theorem jww:Rows.DryMattersSaid:=
 OpenClaim.holds_of_cond 3 Tryz.f3 rfl rfl rfl rfl rfl rfl rfl ⟨rfl,rfl,rfl,rfl,rfl⟩ rfl rfl rfl rfl rfl (by kernel_rfl) Tryz.func3 jwt
  (of_decide_eq_true (by kernel_rfl)) (by unfold Func.isWrapper;first|(rw [if_pos (by decide+kernel)];kernel_rfl)|(rw [if_neg (by decide+kernel)];exact ⟨rfl,rfl⟩))
  (fun os started H enc _ F=>by rw [OpenClaim.pre_eq_preRow];exact jws os started H enc F)
theorem jwu (f : FuncId) (fn : Func) (hf : Tryz.pinned.checked.prog.funcNamed "bushel/bushellaw06.DryMatters" = some f) (hfn : Tryz.pinned.checked.prog.funcs[f]? = some fn) :
  true=Tryz.pinned.checked.prog.looks []∧∀(j:Nat) t,fn.params[j]? =some t→Tryz.pinned.checked.prog.wantsStandIn t=false:=by
 obtain rfl : f = 3 := Option.some.inj ((show Tryz.prog.funcNamed "bushel/bushellaw06.DryMatters" = some 3 by kernel_rfl).symm.trans hf) |>.symm
 obtain rfl:fn=Tryz.f3:=(Option.some.inj (Tryz.func3.symm.trans hfn)).symm;refine ⟨by kernel_rfl,fun j t ht=> ?_⟩;rw [Tryz.params3] at ht;have hm:t∈ [3,22,23]:=by simpa using Array.mem_of_getElem? ht
 have hall:([3,22,23].all fun u=> !Tryz.prog.wantsStandIn u)=true:=by kernel_rfl
 exact (show Tryz.prog.wantsStandIn t=false by simpa using List.all_eq_true.1 hall t hm)
theorem matters_card:Rows.DryMattersCardSaid:=
 Claim7.holds_tied_plain_at .later [] _ _ _ _ jww (fun _ h=>by cases h) (by kernel_rfl) (fun _ h=>by cases h) dryMatters_row_tie rfl ⟨rfl,rfl⟩ (by kernel_rfl) rfl jwu (by kernel_rfl)
#print axioms matters_card
end Go.Proofs.YtekpigjlnjddbaaGreatDoor
