/- Parts. -/
import Derived.Test.YtgbadcjhiljiiaaGreatDoorZl
import Derived.Test.YtgbadcjhiljiiaaGreatDoorDbG
import Derived.Test.YtgbadcjhiljiiaaGreatDoorRows
import Derived.Test.YtgbadcjhiljiiaaGreatDoorCards
import Derived.Test.YtgbadcjhiljiiaaGreatDoorTie
import Derived.ProofKit
import Derived.OpenShut
import Derived.Carry
import Derived.Deep.DeepHandedRow
import Derived.Lib.LaidTab
import Derived.Stop.LaidErr
import Derived.Lay
import Derived.MakeChecks
import Derived.Shelf.Vars
import Derived.ChangeMaps5
import Derived.ChangeSame
import Derived.SliceStrings
set_option linter.all false
set_option maxRecDepth 100000
set_option maxHeartbeats 8000000
namespace Go.Proofs.YtgbadcjhiljiiaaGreatDoor
open Go Go.RowKit

theorem Env.awake6 {w W:World} (h:Env w) (hb:Below w.heap.size w W):Calls Tryz.prog 5 #[] W fun e w'=>e= .returned (.bool true)∧Below W.heap.size W w':=by
 obtain ⟨m,hm⟩:=(h.below hb).max;exact E6.awake6 (h.tab W hb) ⟨_,hm⟩
def jqE (w:World) (R:List Int×List (List UInt8)×Int) (e:Ending) (w':World):Prop:=∃A1 n1 c1 A2 n2 c2,e= .returned (.tuple #[.slice A1 n1 c1, .slice A2 n2 c2, .int .i64 R.2.2])∧(Iv6 w' A1 n1 R.1∧Sv w' A2 n2 R.2.1)∧Below w.heap.size w w'
section
variable {w:World} {A:Option Addr} {n c:Nat} {a:List UInt8} {ls:List (List UInt8)} {mass:Int}
theorem jmP {R:List Int×List (List UInt8)×Int} (hE:Env w) (h:Sv w A n ls) (hla:a.length≤30) (hll:∀l∈ls,l.length≤30) (hn:n≤6∨(256 < n∧n≤300)) (hR:stR mass a ls n=R):
  Calls Tryz.prog 8 #[.int .i64 mass,bs a, .slice A n c] w (jqE w R):=by
 by_cases h0:stB mass a n=0
 ·have h6:n≤6:=by have:=(je6 h0).2.2;omega
  refine (jlk (c:=c) (k:=30) hE h (by omega) (by omega) hla hll h6 h0 rfl hR).mono ?_
  rintro e w' ⟨A1,n1,c1,A2,n2,c2,rfl,h1,h2,hb⟩
  exact ⟨A1,n1,c1,A2,n2,c2,rfl,⟨h1,h2⟩,hb⟩
 ·refine (jmQ (c:=c) (A:=A) hE (by omega) (by omega) rfl h0).mono ?_
  rintro e w' ⟨rfl,hb⟩
  rw [←hR];unfold stR;rw [if_neg h0];exact ⟨none,0,0,none,0,0,rfl,⟨⟨rfl,fun h=>by omega⟩,⟨rfl,fun h=>by omega⟩⟩,hb⟩
theorem jkN {R:List Int×List (List UInt8)×Int} (h:Sv w A n ls) (hla:a.length≤30) (hll:∀l∈ls,l.length≤30) (hn:n≤6∨(256 < n∧n≤300)) (hR:stR mass a ls n=R):
  Calls Tryz.prog 14 #[.int .i64 mass,bs a, .slice A n c] w (jqE w R):=by
 by_cases h0:stB mass a n=0
 ·have h6:n≤6:=by have:=(je6 h0).2.2;omega
  refine (jj5 (c:=c) (k:=30) h (by omega) (by omega) hla hll h6 h0 rfl hR).mono ?_
  rintro e w' ⟨A1,n1,c1,A2,n2,c2,rfl,h1,h2,hb⟩
  exact ⟨A1,n1,c1,A2,n2,c2,rfl,⟨h1,h2⟩,hb⟩
 ·refine (jlu (c:=c) (A:=A) (by omega) (by omega) rfl h0).mono ?_
  rintro e w' ⟨rfl,hb⟩
  rw [←hR];unfold stR;rw [if_neg h0];exact ⟨none,0,0,none,0,0,rfl,⟨⟨rfl,fun h=>by omega⟩,⟨rfl,fun h=>by omega⟩⟩,hb⟩
theorem jsa (hn:n≤300):(stR mass a ls n).1.length≤300∧(stR mass a ls n).2.1.length≤300:=by
 unfold stR;split
 ·split
  ·split
   ·exact ⟨Nat.zero_le _,Nat.zero_le _⟩
   ·rw [js4,List.length_map,jsH];exact ⟨hn,hn⟩
  ·exact ⟨Nat.zero_le _,Nat.zero_le _⟩
 ·exact ⟨Nat.zero_le _,Nat.zero_le _⟩
theorem jdU {B:Option Addr} {m d:Nat} (h:Sv w A n ls) (h':Sv w B m ls) (hn:ls.length≤300):Calls Tryz.prog 17 #[.slice A n c, .slice B m d] w fun e w'=>e= .returned (.bool true)∧Below w.heap.size w w':=by
 obtain rfl:n=m:=by rw [←h.len,←h'.len]
 exact jhI h h' (by have:=h.len;omega)
def jtT (a:List UInt8) (ls:List (List UInt8)):Bool:=decide (a.length≤30) && ls.all fun l=>decide (l.length≤30)
theorem jkV (hE:Env w) (h:Sv w A n ls) (hn:n < 9223372036854775808) (hb:jtT a ls=false∨(6 < n∧n≤256)∨300 < n):
  Calls Tryz.prog 3 #[.int .i64 mass,bs a, .slice A n c] w fun e w'=>e= .returned (.bool true)∧Below w.heap.size w w':=by
 have HA:=qh (fun W (hb:Below w.heap.size w W)=>hE.awake6 hb);obtain ⟨f1,hf1⟩:∃f,decide (a.length≤30)=f:=⟨_,rfl⟩;obtain ⟨f2,hf2⟩:∃f,(ls.all fun l=>decide (l.length≤30))=f:=⟨_,rfl⟩;have HF1:Hid (∀W (A:Option Addr) (n c:Nat),Sv W A n [a]→n≤100→Calls Tryz.prog 4 #[.slice A n c] W fun e w'=>e= .returned (.bool f1)∧Below W.heap.size W w'):=qh (fun W A n c hs hn=>jgr hs (by omega) (by rw [List.all_cons,hf1];simp));have HF2:=qh (fun W (hb:Below w.heap.size w W)=>jgr (c:=c) (h.below hb) hn hf2);unfold jtT at hb;rw [hf1,hf2] at hb;clear hE h hf1 hf2;cases f1 with
 | false=>
   clear hb hn;go_enter Tryz.func3,Tryz.ntmps3;go_wp2_with (first|(go_at_call 4;(with_reducible show Calls _ _ #[.slice (some ⟨w.heap.size,0,none⟩) 1 1] _ _);(with_reducible refine mo0 (HF1.out _ _ _ _ (Sv.one w _ a) (by omega)) fun w1 hb1 hc1 hf1 _=> ?_))|(go_at_call 4;(with_reducible refine mo0 (HF2.out _ bi) fun w2 hb2 hc2 hf2 _=> ?_))|(go_at_call 5;(with_reducible refine mo0 (HA.out _ bi) fun w3 hb3 hc3 hf3 _=> ?_)))
   go_ret;exact ⟨rfl,bi⟩
 | true=>
   cases f2 with
   | false=>
     clear hb hn;go_enter Tryz.func3,Tryz.ntmps3;go_wp2_with (first|(go_at_call 4;(with_reducible show Calls _ _ #[.slice (some ⟨w.heap.size,0,none⟩) 1 1] _ _);(with_reducible refine mo0 (HF1.out _ _ _ _ (Sv.one w _ a) (by omega)) fun w1 hb1 hc1 hf1 _=> ?_))|(go_at_call 4;(with_reducible refine mo0 (HF2.out _ bi) fun w2 hb2 hc2 hf2 _=> ?_))|(go_at_call 5;(with_reducible refine mo0 (HA.out _ bi) fun w3 hb3 hc3 hf3 _=> ?_)))
     go_ret;exact ⟨rfl,bi⟩
   | true=>
     have hb:(6 < n∧n≤256)∨300 < n:=by
      rcases hb with h|h
      ·cases h
      ·exact h
     have p1:decide ((6:Int) < (n:Int))=true:=by rw [decide_eq_true_iff];omega
     rcases hb with h|h
     ·have p2:decide ((n:Int)≤256)=true:=by rw [decide_eq_true_iff];omega
      clear h hn;go_enter Tryz.func3,Tryz.ntmps3;go_wp2_with (first|(go_at_call 4;(with_reducible show Calls _ _ #[.slice (some ⟨w.heap.size,0,none⟩) 1 1] _ _);(with_reducible refine mo0 (HF1.out _ _ _ _ (Sv.one w _ a) (by omega)) fun w1 hb1 hc1 hf1 _=> ?_))|(go_at_call 4;(with_reducible refine mo0 (HF2.out _ bi) fun w2 hb2 hc2 hf2 _=> ?_))|(go_at_call 5;(with_reducible refine mo0 (HA.out _ bi) fun w3 hb3 hc3 hf3 _=> ?_)))
      go_ret;exact ⟨rfl,bi⟩
     ·have p2:decide ((n:Int)≤256)=false:=by rw [decide_eq_false_iff_not];omega
      have p3:decide ((300:Int) < (n:Int))=true:=by rw [decide_eq_true_iff];omega
      clear h hn;go_enter Tryz.func3,Tryz.ntmps3;go_wp2_with (first|(go_at_call 4;(with_reducible show Calls _ _ #[.slice (some ⟨w.heap.size,0,none⟩) 1 1] _ _);(with_reducible refine mo0 (HF1.out _ _ _ _ (Sv.one w _ a) (by omega)) fun w1 hb1 hc1 hf1 _=> ?_))|(go_at_call 4;(with_reducible refine mo0 (HF2.out _ bi) fun w2 hb2 hc2 hf2 _=> ?_))|(go_at_call 5;(with_reducible refine mo0 (HA.out _ bi) fun w3 hb3 hc3 hf3 _=> ?_)))
      go_ret;exact ⟨rfl,bi⟩
theorem jnS {m x y:Rat} (hy:100 - y≠0):m*(x - y) / (100 - y)=m - m*(100 - x) / (100 - y):=by grind
theorem jkX {t:List UInt8} (hE:Env w) (hla:a.length≤30) (hlt:t.length≤30):∃(sT:List UInt8) (rn:Int) (tz:List UInt8) (ez:Int),
  (∀W,Below w.heap.size w W→Calls Tryz.prog 6 #[.int .i64 mass,bs a,bs t] W fun e w'=>e= .returned (.tuple #[bs sT, .int .i64 (jhc mass a t)])∧Below W.heap.size W w')∧
  (∀W,Below w.heap.size w W→Calls Tryz.prog 7 #[.int .i64 mass,bs a,bs t] W fun e w'=>e= .returned (.tuple #[.int .i64 rn,bs tz, .int .i64 ez])∧Below W.heap.size W w')∧
  (∀W:World,Calls Tryz.prog 13 #[.int .i64 mass,bs a,bs t] W fun e w'=>e= .returned (.tuple #[.int .i64 rn,bs tz, .int .i64 ez])∧Below W.heap.size W w')∧
  (jhc mass a t≠0→sT=[])∧(jhc mass a t=0→sT=tq ((mass:Rat) - (mass:Rat)*(100 - numQ a) / (100 - numQ t)))∧(ez≠0→tz=[]):=by
 by_cases h0:jhc mass a t=0
 ·obtain ⟨⟨m1,m2⟩,hx,hy,hle⟩:=jcg h0;have dx:=hx.num.dzl hla (by omega);have dy:=hy.num.dzl hlt (by omega);have dm:=dzm m1 m2;have hy1:=jlX hy.high;obtain ⟨z,hz⟩:∃z,(mass:Rat)*(numQ a - numQ t) / (100 - numQ t)=z:=⟨_,rfl⟩;have dz:Dz 200 z:=hz ▸ ((dm.mul (dx.sub dy)).div (jc9.sub dy) hy1).mono (by omega);obtain ⟨g1,g2,_⟩:=jp0 dz (by omega) (by omega);have hC:Ceil mass (crN mass (numQ a) (numQ t)) (numQ a) (numQ t):=⟨rfl,m1,m2,hx.high,hle⟩;obtain ⟨c1,c2⟩:=hC.le
  have hN0:(((crN mass (numQ a) (numQ t):Int)):Rat)≠0:=by
   intro e;have:crN mass (numQ a) (numQ t)=0:=by exact_mod_cast e
   omega
  have dX:Dz 200 (crX mass (numQ a) (numQ t)):=(jc9.sub ((dm.mul (jc9.sub dx)).div (dzm c1 (by omega)) hN0)).mono (by omega);refine ⟨tq z,(if jbq (crX mass (numQ a) (numQ t))=0 then crN mass (numQ a) (numQ t) else 0),jcF (crX mass (numQ a) (numQ t)),jbq (crX mass (numQ a) (numQ t)),fun W hb=> ?_,fun W hb=> ?_,fun W=> ?_,fun h=>absurd h0 h,fun _=> ?_,fun h=> ?_⟩
  ·rw [h0];exact jni (hE.below hb) (by omega) (by omega) h0 hz (dz.strQ (by omega)) g1 g2
  ·exact jtk (hE.below hb) (by omega) (by omega) h0 hC rfl (dX.strQ (by omega)) rfl rfl rfl
  ·exact jsF (k:=30) h0 hla hlt (by omega) (by omega) hC rfl rfl rfl rfl
  ·rw [←hz,jnS hy1]
  ·unfold jbq at h;unfold jcF;cases hl:je3 (crX mass (numQ a) (numQ t)) with
   | true=>rfl
   | false=>rw [hl] at h;exact absurd rfl h
 ·exact ⟨[],0,[],jhc mass a t,fun W hb=>jlv (hE.below hb) (by omega) (by omega) rfl h0,fun W hb=>jro (hE.below hb) (by omega) (by omega) rfl h0,fun W=>jpa rfl h0 (by omega) (by omega),fun _=>rfl,fun h=>absurd h h0,fun _=>rfl⟩
set_option maxHeartbeats 16000000 in
theorem jjw (hE:Env w) (h:Sv w A n ls) (hm:jtT a ls=true) (hn:n≤6∨(256 < n∧n≤300)):
  Calls Tryz.prog 3 #[.int .i64 mass,bs a, .slice A n c] w fun e w'=>e= .returned (.bool true)∧Below w.heap.size w w':=by
 unfold jtT at hm;rw [Bool.and_eq_true,decide_eq_true_iff] at hm;obtain ⟨hla,hal⟩:=hm;have hll:∀l∈ls,l.length≤30:=fun l hl=>by simpa using List.all_eq_true.1 hal l hl
 obtain ⟨t,ht⟩:∃t,(if 0 < n then ls.getD 0 [] else [49,48])=t:=⟨_,rfl⟩
 have hlt:t.length≤30:=by
  rw [←ht];split
  ·rename_i q
   exact hll _ (by rw [List.getD_eq_getElem?_getD,List.getElem?_eq_getElem (by rw [h.len];exact q)];exact List.getElem_mem _)
  ·decide
 have HA:=qh (fun W (hb:Below w.heap.size w W)=>hE.awake6 hb);have HF1:Hid (∀W (A:Option Addr) (n c:Nat),Sv W A n [a]→n≤100→Calls Tryz.prog 4 #[.slice A n c] W fun e w'=>e= .returned (.bool true)∧Below W.heap.size W w'):=qh (fun W A n c hs hn=>jgr hs (by omega) (by rw [List.all_cons,decide_eq_true hla];rfl));have HF2:=qh (fun W (hb:Below w.heap.size w W)=>jgr (c:=c) (h.below hb) (by omega) hal);obtain ⟨sT,rn,tz,ez,h1,h2,h3,h4,h5,h6⟩:=jkX (mass:=mass) (t:=t) hE hla hlt;obtain ⟨R,hR⟩:∃R,stR mass a ls n=R:=⟨_,rfl⟩;have HS:=qh (fun W (hb:Below w.heap.size w W)=>jmP (c:=c) (hE.below hb) (h.below hb) hla hll hn hR);have HRS:=qh (fun W (hb:Below w.heap.size w W)=>jkN (c:=c) (h.below hb) hla hll hn hR);have hlen:=jsa (mass:=mass) (a:=a) (ls:=ls) (n:=n) (by omega);rw [hR] at hlen;obtain ⟨Ms,Ts,kr⟩:=R;dsimp only at hlen;obtain ⟨K,hK⟩:∃K,jhc mass a t=K:=⟨_,rfl⟩;have HW:=qh (fun W=>jj0 (w:=W) hK (by omega) (by omega))
 have HK:Hid (K=0→(∀W,Calls Tryz.prog 11 #[.int .i64 mass] W (QP ((mass:Int):Rat) W))∧(∀W,Calls Tryz.prog 12 #[.int .i64 mass,bs a,bs t] W (QP ((mass:Rat)*(100 - numQ a) / (100 - numQ t)) W))∧∀W,Calls Tryz.prog 10 #[bs (tq ((mass:Int):Rat)),bs (tq ((mass:Rat)*(100 - numQ a) / (100 - numQ t)))] W (QP ((mass:Rat) - (mass:Rat)*(100 - numQ a) / (100 - numQ t)) W)):=qh (fun h0=>by
  obtain ⟨⟨m1,m2⟩,hx,hy,hle⟩:=jcg (hK.trans h0);have dx:=hx.num.dzl hla (by omega);have dy:=hy.num.dzl hlt (by omega);have dm:=dzm m1 m2;have hy1:=jlX hy.high;have dW:Dz 200 ((mass:Rat)*(100 - numQ a) / (100 - numQ t)):=((dm.mul (jc9.sub dx)).div (jc9.sub dy) hy1).mono (by omega);refine ⟨fun W=>jgR m1 m2,fun W=> ?_,fun W=>jg3 dm dW (by omega) (by omega) (by omega) (by omega)⟩;have hq:=jkl (w:=W) m1 m2 dx dy (by omega) (by omega) (by omega) (by omega) hy1;rw [←hx.num.eq,←hy.num.eq] at hq
  exact hq)
 rw [hK] at h1 h4 h5;have HSH:=qh h1;have HDR:=qh h2;have HRD:=qh h3;have HSE:=qh (And.intro h4 (And.intro h5 h6));have HT:=qh ht;have HN:=qh hn;have H:=qh h;have HLEN:=qh hlen
 have p1:(decide ((6:Int) < (n:Int)) && decide ((n:Int)≤256))=false:=by
  rcases hn with h|h
  ·rw [decide_eq_false (show ¬(6:Int) < (n:Int) by omega),Bool.false_and]
  ·rw [decide_eq_false (show ¬(n:Int)≤256 by omega),Bool.and_false]
 have p3:decide ((300:Int) < (n:Int))=false:=by rw [decide_eq_false_iff_not];omega
 have HP:=qh (And.intro p1 hn);clear hE h hla hal hll hlt ht h1 h2 h3 h4 h5 h6 hR hlen hK hn p1;go_enter Tryz.func3,Tryz.ntmps3;go_upto_region 1 with (fail)
 go_cut [47] (fun v wx=>v= .bool false∧RowKit.Below w.heap.size w wx)
 case first=>
  rcases HP.out.2 with h|h
  ·have p1:decide ((6:Int) < (n:Int))=false:=by rw [decide_eq_false_iff_not];omega
   clear h;go_wp2_with (first|(go_at_call 4;(with_reducible show Calls _ _ #[.slice (some ⟨w.heap.size,0,none⟩) 1 1] _ _);(with_reducible refine mo0 (HF1.out _ _ _ _ (Sv.one w _ a) (by omega)) fun w1 hb1 hc1 hf1 _=> ?_))|(go_at_call 4;(with_reducible refine mo0 (HF2.out _ bi) fun w2 hb2 hc2 hf2 _=> ?_))|(go_at_call 5;(with_reducible refine mo0 (HA.out _ bi) fun w3 hb3 hc3 hf3 _=> ?_)))
   go_meet;exact ⟨rfl,bi⟩
  ·have p1:decide ((6:Int) < (n:Int))=true:=by rw [decide_eq_true_iff];omega
   have p2:decide ((n:Int)≤256)=false:=by rw [decide_eq_false_iff_not];omega
   clear h;go_wp2_with (first|(go_at_call 4;(with_reducible show Calls _ _ #[.slice (some ⟨w.heap.size,0,none⟩) 1 1] _ _);(with_reducible refine mo0 (HF1.out _ _ _ _ (Sv.one w _ a) (by omega)) fun w1 hb1 hc1 hf1 _=> ?_))|(go_at_call 4;(with_reducible refine mo0 (HF2.out _ bi) fun w2 hb2 hc2 hf2 _=> ?_))|(go_at_call 5;(with_reducible refine mo0 (HA.out _ bi) fun w3 hb3 hc3 hf3 _=> ?_)))
   go_meet;exact ⟨rfl,bi⟩
 case rest=>
  rename World=>wa
  obtain ⟨rfl,ba⟩:=hcut;clear p3;obtain ⟨g,hg⟩:∃g,decide (0 < n)=g:=⟨_,rfl⟩;have HG:=qh hg
  go_upto_if 51 with (fail)
  clear hg
  go_cut [7] (fun v wx=>v=bs t∧RowKit.Below wa.heap.size wa wx)
  case first=>
   have ht:=HT.out;cases g with
   | false=>
     have h0:¬0 < n:=by simpa using HG.out
     rw [if_neg h0] at ht;subst ht;clear h0;go_wp2;go_meet;exact ⟨rfl,bi⟩
   | true=>
     have h0:0 < n:=by simpa using HG.out
     rw [if_pos h0] at ht;obtain ⟨b,o,rfl,hbl,hat⟩:=(H.out.below ba).at_ h0;have k0:=hat 0 h0;rw [ht,Nat.add_zero] at k0;clear hat ht;go_wp2;go_meet;exact ⟨rfl,bi⟩
  case rest=>
   rename World=>wb
   obtain ⟨rfl,bb⟩:=hcut;have bW:=ja0 ba bb;clear HG HF1 HF2 ba bb HT HP;go_upto_region 10 with (first|(go_at_call 6;(with_reducible refine mo0 (HSH.out _ (ja0 bW bi)) fun w1 hb1 hc1 hf1 _=> ?_))|(go_at_call 7;(with_reducible refine mo0 (HDR.out _ (ja0 bW bi)) fun w2 hb2 hc2 hf2 _=> ?_))|(go_at_call 8;(with_reducible refine (HS.out _ (ja0 bW bi)).mono ?_);rintro e3 w3 ⟨A3,n3,c3,B3,m3,d3,rfl,hr3,hb3⟩;obtain ⟨hc3,hf3,_⟩:=bc0 hb3)|(go_at_call 9;(with_reducible refine mo0 (HW.out _) fun w4 hb4 hc4 hf4 _=> ?_)))
   have b4:RowKit.Below w3.heap.size w3 w4:=bi;have bW4:RowKit.Below w.heap.size w w4:=ja0 bW (show RowKit.Below wb.heap.size wb w4 from bi);have HR3:=qh hr3;clear hc1 hc2 hc3 hc4 hf1 hf2 hf3 hf4 hb1 hb2 hb4 hb3 bW hr3 HSH HDR HS HW;have hl3:n3≤100000:=by have h1:=HR3.out.1.len;have h2:=HLEN.out.1;omega
   have HI3:=qh (HR3.out.1.below b4);have HT3:=qh (HR3.out.2.below b4);clear HR3 b4;obtain ⟨s1,s2,s3⟩:=HSE.out;by_cases h0:K=0
   ·subst h0;obtain ⟨hf,hw,hs⟩:=HK.out rfl;obtain rfl:=s2 rfl;obtain ⟨M,hM⟩:∃M,tq ((mass:Int):Rat)=M:=⟨_,rfl⟩;obtain ⟨Y,hY⟩:∃Y,tq ((mass:Rat)*(100 - numQ a) / (100 - numQ t))=Y:=⟨_,rfl⟩;obtain ⟨D,hD⟩:∃D,tq ((mass:Rat) - (mass:Rat)*(100 - numQ a) / (100 - numQ t))=D:=⟨_,rfl⟩;unfold QP at hf hw hs;simp only [hM,hY,hD] at hf hw hs ⊢;have HFI:=qh hf;have HWE:=qh hw;have HSU:=qh hs;have HS3:=qh s3;clear hf hw hs s1 s2 s3 hM hY hD HK HSE;go_wp2_with (first|(go_at_call 11;(with_reducible refine mo0 (HFI.out _) fun w5 hb5 hc5 hf5 _=> ?_))|(go_at_call 12;(with_reducible refine mo0 (HWE.out _) fun w6 hb6 hc6 hf6 _=> ?_))|(go_at_call 10;(with_reducible refine mo0 (HSU.out _) fun w7 hb7 hc7 hf7 _=> ?_))|(go_at_call 13;(with_reducible refine mo0 (HRD.out _) fun w8 hb8 hc8 hf8 _=> ?_))|(first|(go_at_call 15;(with_reducible show Calls _ _ #[bs D, .int .i64 0, .int .i64 0,bs D] _ _);(with_reducible refine mo0 (jgi (x:=D) (want:=D) (k:=0) (fun h=>absurd rfl h) (fun _=>rfl)) fun w10 hb10 hc10 hf10 _=> ?_))|(go_at_call 14;(with_reducible refine (HRS.out _ (ja0 bW4 bi)).mono ?_);rintro e9 w9 ⟨A9,n9,c9,B9,m9,d9,rfl,hr9,hb9⟩;obtain ⟨hc9,hf9,_⟩:=bc0 hb9)|(go_at_call 15;(with_reducible show Calls _ _ #[bs tz, .int .i64 ez, .int .i64 ez,bs tz] _ _);(with_reducible refine mo0 (jgi (x:=tz) (want:=tz) (k:=ez) HS3.out (fun _=>rfl)) fun w11 hb11 hc11 hf11 _=> ?_))|(go_at_call 16;(with_reducible refine mo0 (jic (r:=true) (HI3.out.below bi) (hr9.1.below bi) hl3 (by simp)) fun w12 hb12 hc12 hf12 _=> ?_))|(go_at_call 17;(with_reducible refine mo0 (jdU (HT3.out.below bi) (hr9.2.below bi) HLEN.out.2) fun w13 hb13 hc13 hf13 _=> ?_))|(go_at_call 5;(with_reducible refine mo0 (HA.out _ (ja0 bW4 bi)) fun w14 hb14 hc14 hf14 _=> ?_))))
    go_ret;exact ⟨rfl,ja0 bW4 bi⟩
   ·obtain rfl:=s1 h0;have q1:(K==0)=false:=by rw [beq_eq_false_iff_ne];exact h0
    have HS3:=qh s3;have HNE:=qh h0;clear s1 s2 s3 HK HSE h0;go_wp2_with (first|(go_at_call 13;(with_reducible refine mo0 (HRD.out _) fun w8 hb8 hc8 hf8 _=> ?_))|(first|(go_at_call 15;(with_reducible refine mo0 (jgi (x:=[]) (want:=[]) (k:=K) (fun _=>rfl) (fun _=>rfl)) fun w10 hb10 hc10 hf10 _=> ?_))|(go_at_call 14;(with_reducible refine (HRS.out _ (ja0 bW4 bi)).mono ?_);rintro e9 w9 ⟨A9,n9,c9,B9,m9,d9,rfl,hr9,hb9⟩;obtain ⟨hc9,hf9,_⟩:=bc0 hb9)|(go_at_call 15;(with_reducible show Calls _ _ #[bs tz, .int .i64 ez, .int .i64 ez,bs tz] _ _);(with_reducible refine mo0 (jgi (x:=tz) (want:=tz) (k:=ez) HS3.out (fun _=>rfl)) fun w11 hb11 hc11 hf11 _=> ?_))|(go_at_call 16;(with_reducible refine mo0 (jic (r:=true) (HI3.out.below bi) (hr9.1.below bi) hl3 (by simp)) fun w12 hb12 hc12 hf12 _=> ?_))|(go_at_call 17;(with_reducible refine mo0 (jdU (HT3.out.below bi) (hr9.2.below bi) HLEN.out.2) fun w13 hb13 hc13 hf13 _=> ?_))|(go_at_call 5;(with_reducible refine mo0 (HA.out _ (ja0 bW4 bi)) fun w14 hb14 hc14 hf14 _=> ?_))))
    go_ret;exact ⟨rfl,ja0 bW4 bi⟩
theorem jjn (hE:Env w) (h:Sv w A n ls) (hn:n < 9223372036854775808) (mass:Int) (a:List UInt8):
  Calls Tryz.prog 3 #[.int .i64 mass,bs a, .slice A n c] w fun e w'=>e= .returned (.bool true)∧Below w.heap.size w w':=by
 by_cases hq:jtT a ls=false∨(6 < n∧n≤256)∨300 < n
 ·exact jkV hE h hn hq
 ·rw [not_or] at hq;exact jjw hE h (by simpa using hq.1) (by omega)
end
end Go.Proofs.YtgbadcjhiljiiaaGreatDoor
namespace Go.Proofs.YtgbadcjhiljiiaaGreatDoor
open Go Go.ChangeShapes Go.WideShapes Go.ChangeAt Go.RowKit

theorem own:ownKnob Tryz.prog.godebug=none:=by kernel_rfl
theorem jix:laidOutB Tryz.prog=true:=by kernel_rfl
theorem jw6 : Tryz.prog.globalNamed "internal/strconv.uint64pow10" = some 5 := by kernel_rfl
theorem jpM:(Tryz.prog.globals[5]?).map (·.type)=some 308:=by kernel_rfl
theorem jq2:Tryz.prog.cellsOf 308=20:=by kernel_rfl
theorem joE:Tryz.prog.cellsOf 211=1:=by kernel_rfl
theorem laidMetH.plain {l:List (String×DataW Unit)} {W:World} (h:laidMetH Tryz.prog l W) (hp:(l.all fun x=>x.2.handleName?.isNone)=true):laidMet Tryz.prog l W:=by
 rw [MakeChecks.laidMetH_plain _ _ _ hp] at h;exact h
theorem jtM {W : World} {l : List (String × DataW Unit)} (h : laidMet Tryz.prog (("internal/strconv.uint64pow10", Rows.laid_internal_strconv_uint64pow10) :: l) W) (hs : W.ShapedOpen Tryz.prog) : Env W := by
 obtain ⟨m,hm⟩:=Go.Proofs.cell_of_shapedOpen_int (g:=0) (zero:= #[.int .i64 0]) (t:=3) hs (of_decide_eq_true (by kernel_rfl)) (by kernel_rfl) rfl (by kernel_rfl) (by kernel_rfl) Tryz.underlying3;exact ⟨Lib.tabBelow_of_tabIs (Lib.tabIs_of_head (zs:=Lib.pow10Tab) jw6 jpM Tryz.underlying308 Tryz.underlying211 joE jq2 h),⟨m,hm⟩,World.block_lt_of_cell? W ⟨0,0,none⟩ hm⟩
end Go.Proofs.YtgbadcjhiljiiaaGreatDoor
namespace Go.Proofs.YtgbadcjhiljiiaaGreatDoor
open Go Go.ChangeShapes Go.WideShapes Go.ChangeAt Go.RowKit Go.ChangeMaps

theorem jmJ {H:Type} {enc:TypeId×Value→H} {W:World} {sp:Nat→Bool} {held:Bool} {r:Reach} {b0 base:Nat} {t:TypeId} {v:Value} {d:DataW H} {ps:List MemPlace} (ht:Tryz.prog.underlying t=some .string) (hval:Value.okWide Tryz.prog W r b0 t v) (hd:DataW.Trod enc Tryz.prog W base sp held t v d ps):
  ∃a:List UInt8,v=bs a∧ps=[]:=by
 obtain ⟨s,rfl,_,rfl,_⟩:=open_string ht hval hd;exact ⟨s.data.toList,rfl,rfl⟩
end Go.Proofs.YtgbadcjhiljiiaaGreatDoor
namespace Go.Proofs.YtgbadcjhiljiiaaGreatDoor
open Go Go.ChangeShapes Go.WideShapes Go.ChangeAt Go.RowKit

theorem jpI:Tryz.prog.cellsOf 22=1:=by kernel_rfl
theorem jn6 {H:Type} {enc:TypeId×Value→H} {W:World} {A:Option Addr} {n c fuel:Nat} {x:DataW H×List MemPlace} (h:DataW.trod enc Tryz.prog W 0 (fun _=>true) true fuel 23 [.slice A n c]=some x):∃ls,Sv W A n ls∧n < 9223372036854775808:=by
 rcases open_strings Tryz.underlying23 Tryz.underlying22 jpI h with ⟨hcs,_⟩|⟨a,len,cap,ss,hcs,_,hl,hm,hz,_,hcell,_⟩
 ·simp at hcs;obtain ⟨rfl,rfl,rfl⟩:=hcs;exact ⟨[],⟨rfl,fun h=>by omega⟩,by omega⟩
 ·simp at hcs;obtain ⟨rfl,rfl,rfl⟩:=hcs;simp only [if_true] at hz;obtain ⟨b,off,spot⟩:=a;refine ⟨(List.range n).map fun i=>(ss.getD i ByteArray.empty).data.toList,⟨by simp,fun h0=> ?_⟩,by unfold maxLen at hm;omega⟩;have hspot:spot=none:=by simpa [Addr.add] using World.cell?_spot (hcell 0 (by omega))
  subst hspot;have e0:∀i,(⟨b,off,none⟩:Addr).add i=⟨b,off+i,none⟩:=fun i=>by unfold Addr.add;split <;> simp_all
  refine ⟨b,off,rfl,World.block_lt_of_cell? W _ (hcell 0 (by omega)),fun j hj=> ?_⟩;have hc:=hcell j (by omega);rw [e0] at hc;rw [hc,List.getD_eq_getElem?_getD (l:=List.map _ _),List.getElem?_map,List.getElem?_range hj,Option.map_some,Option.getD_some]
theorem jhr {w:World} {A:Option Addr} {n c:Nat} {a:List UInt8} {ls:List (List UInt8)} {mass:Int} (hE:Env w) (_:(Lit.int .i64 mass).wf=true) (h:Sv w A n ls) (hn:n < 9223372036854775808):
  Calls Tryz.prog 3 #[.int .i64 mass,bs a, .slice A n c] w fun e w'=>e= .returned (.bool true)∧Below w.heap.size w w':=jjn hE h hn mass a

theorem jl5 (os:Os):laidMet Tryz.prog Rows.dryMassesRow.laid ((World.laidAll Tryz.prog os Rows.dryMassesRow.laid).forCall (fun _ _=>0) ⟨#[], #[.int .i64 0, .string ⟨#[]⟩, .slice none 0 0],[]⟩).memory:=
 laidMet_laidAll _ (by kernel_rfl) (by kernel_rfl)
theorem jhP (os:Os) {H:Type} (enc:TypeId×Value→H):∃places,DataW.whole enc Tryz.prog ((World.laidAll Tryz.prog os Rows.dryMassesRow.laid).forCall (fun _ _=>0) ⟨#[], #[.int .i64 0, .string ⟨#[]⟩, .slice none 0 0],[]⟩).memory Tryz.f3.params.toList Rows.dryMassesSpec.vars false #[Value.int .i64 0, .string ⟨#[]⟩, .slice none 0 0].toList 8=some ([.lit (.int .i64 0), .lit (.string []), .nil],[],places):=
 ⟨[],by kernel_rfl⟩
theorem jex (H:Type) (enc:TypeId×Value→H) (W:World) (base:Nat) (args:Array Value) (ds gs:List (DataW H)) (before:List MemPlace)
  (hval:∀(j:Nat) t v,Tryz.f3.params[j]? =some t→args[j]? =some v→Value.okWide Tryz.prog W .any base t v)
  (hW:DataW.Whole enc Tryz.prog Tryz.f3.params.toList Rows.dryMassesSpec.vars false W args.toList ds gs before) (hL:laidMetH Tryz.prog Rows.dryMassesRow.laid W) (hS:W.ShapedOpen Tryz.prog):
  Calls Tryz.prog 3 args W fun e W'=>∃v,e= .returned v∧Rows.dryMassesSpec.post enc Tryz.prog Tryz.f3 false true false false W args v W':=by
 have hE:Env W:=jtM (laidMetH.plain hL (by kernel_rfl)).tail.tail hS;have hW':=hW;obtain ⟨p,q,hA0,hV,rfl,hfz,hnd⟩:=hW;have hA:DataW.TrodAll enc Tryz.prog W 0 (fun _=>true) true Tryz.f3.params.toList args.toList ds p:=hA0;rw [Tryz.params3] at hA hval;obtain ⟨v0,v1,v2,d0,d1,d2,p0,p1,p2,rfl,rfl,rfl,h0,h1,h2⟩:=trodAll_three hA;obtain ⟨rfl,rfl⟩:=trodVars_none hV;obtain ⟨x0,rfl,rfl,rfl,wx0⟩:=open_int Tryz.underlying3 (hval 0 3 v0 rfl rfl) h0;obtain ⟨a1,rfl,rfl⟩:=jmJ Tryz.underlying22 (hval 1 22 v1 rfl rfl) h1;obtain ⟨A2,n2,c2,rfl⟩:=okWide_slice Tryz.underlying23 (hval 2 23 v2 rfl rfl);have h2k:=h2;obtain ⟨fuel2,hf2⟩:=h2;simp only [List.append_nil,List.nil_append] at hW';have hlt2:∀y∈p2,y.block < W.heap.size:=fun y hy=>by simpa using hW'.lt y (by simp [hy])
 obtain ⟨ls2,hv2,hc2⟩:=jn6 hf2;have walk:Calls Tryz.prog 3 #[.int .i64 x0,bs a1, .slice A2 n2 c2] W fun e w'=>e= .returned (.bool true)∧Below W.heap.size W w':=jhr hE wx0 hv2 hc2
 refine walk.mono fun e W' ⟨he,hb⟩=> ?_
 subst he;exact ⟨_,rfl,_,_,_,[],p2,[],hW',trodAll_mk1 (shut_bool Tryz.underlying4 _),(by have h:=trodAll_mk3 (p:=[]) (p':=[]) (p'':=p2) (Below.trod jix (by kernel_rfl) (of_decide_eq_true (by kernel_rfl)) h0 hb (fun y hy=>by cases hy)) (Below.trod jix (by kernel_rfl) (of_decide_eq_true (by kernel_rfl)) h1 hb (fun y hy=>by cases hy)) (Below.trod jix (by kernel_rfl) (of_decide_eq_true (by kernel_rfl)) h2k hb hlt2);first|exact h|(simp only [List.append_nil,List.nil_append] at h;exact h)),rfl,hb.frame _,fun h=>by cases h⟩
theorem jgj (os:Os) (started:os.Started) (H:Type) (enc:TypeId×Value→H) (F:Stop.Interp):
  ReturnsInHanded {} Tryz.checked os 3 .any ((OpenSpec.ofChange Rows.dryMassesSpec).preRow enc Tryz.prog Tryz.f3 Rows.dryMassesRow.domain false Rows.dryMassesRow.laid) (((OpenSpec.ofChange Rows.dryMassesSpec).at F).post enc Tryz.prog Tryz.f3 false true false false):=by
 obtain ⟨places,hx⟩:=jhP os enc
 refine returnsInHanded_of_row (C:=Tryz.checked) (s:=OpenSpec.ofChange Rows.dryMassesSpec) own started (by kernel_rfl) Tryz.func3
  (witness_row_at (enc:=enc) (C:=Tryz.checked) false (World.laidAll Tryz.prog os Rows.dryMassesRow.laid) #[.int .i64 0, .string ⟨#[]⟩, .slice none 0 0] (World.laidAll_os _ _ _) (by kernel_rfl) (by kernel_rfl) (by kernel_rfl)
    (OpenSpec.preRow_of_cond 8 hx (by kernel_rfl) (fun k hk=>by cases hk) (by kernel_rfl) (by rw [MakeChecks.laidMetH_plain _ _ _ (by kernel_rfl)];exact jl5 os))) ?_
 intro W base args ds gs before hval hW _ _ _ hL hS _;exact jex H enc W base args ds gs before hval hW hL hS
theorem jmx:(Rows.dryMassesRow.inPlace==Tryz.pinned.checked.prog.inPlace 3)=true:=by kernel_rfl
theorem jnp:(Rows.dryMassesRow.unfollowed==Tryz.pinned.checked.prog.unfollowed 3)=true:=by kernel_rfl
theorem jmK:(Rows.dryMassesRow.recurses==Tryz.pinned.checked.prog.recurses 3)=true:=by kernel_rfl
theorem jn2:(Rows.dryMassesRow.named==Tryz.pinned.checked.prog.varsNamed 3)=true:=by kernel_rfl
theorem jh6:joinedFacts Tryz.pinned.checked.prog 3 Tryz.f3 (OpenSpec.ofChange Rows.dryMassesSpec).bare Rows.dryMassesRow=true:=by
 unfold joinedFacts;rw [jmx,jnp,jmK,jn2]
 kernel_rfl
theorem jjj:Rows.DryMassesSaid:=
 OpenClaim.holds_of_cond 3 Tryz.f3 rfl rfl rfl rfl rfl rfl rfl ⟨rfl,rfl,rfl,rfl,rfl⟩ rfl rfl rfl rfl rfl (by kernel_rfl) Tryz.func3 jh6
  (of_decide_eq_true (by kernel_rfl)) (by unfold Func.isWrapper;first|(rw [if_pos (by decide+kernel)];kernel_rfl)|(rw [if_neg (by decide+kernel)];exact ⟨rfl,rfl⟩))
  (fun os started H enc _ F=>by rw [OpenClaim.pre_eq_preRow];exact jgj os started H enc F)
theorem jii (f : FuncId) (fn : Func) (hf : Tryz.pinned.checked.prog.funcNamed "bushel/bushellaw06.DryMasses" = some f) (hfn : Tryz.pinned.checked.prog.funcs[f]? = some fn) :
  true=Tryz.pinned.checked.prog.looks []∧∀(j:Nat) t,fn.params[j]? =some t→Tryz.pinned.checked.prog.wantsStandIn t=false:=by
 obtain rfl : f = 3 := Option.some.inj ((show Tryz.prog.funcNamed "bushel/bushellaw06.DryMasses" = some 3 by kernel_rfl).symm.trans hf) |>.symm
 obtain rfl:fn=Tryz.f3:=(Option.some.inj (Tryz.func3.symm.trans hfn)).symm;refine ⟨by kernel_rfl,fun j t ht=> ?_⟩;rw [Tryz.params3] at ht;have hm:t∈ [3,22,23]:=by simpa using Array.mem_of_getElem? ht
 have hall:([3,22,23].all fun u=> !Tryz.prog.wantsStandIn u)=true:=by kernel_rfl
 exact (show Tryz.prog.wantsStandIn t=false by simpa using List.all_eq_true.1 hall t hm)
theorem masses_card:Rows.DryMassesCardSaid:=
 Claim7.holds_tied_plain_at .later [] _ _ _ _ jjj (fun _ h=>by cases h) (by kernel_rfl) (fun _ h=>by cases h) dryMasses_row_tie rfl ⟨rfl,rfl⟩ (by kernel_rfl) rfl jii (by kernel_rfl)
#print axioms masses_card
end Go.Proofs.YtgbadcjhiljiiaaGreatDoor
