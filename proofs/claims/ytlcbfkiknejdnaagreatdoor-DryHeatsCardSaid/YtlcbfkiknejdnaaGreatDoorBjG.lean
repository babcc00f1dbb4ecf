/- Parts. -/
import Derived.Test.YtlcbfkiknejdnaaGreatDoorBgG
import Derived.Test.YtlcbfkiknejdnaaGreatDoorRows
import Derived.Test.YtlcbfkiknejdnaaGreatDoorCards
import Derived.Test.YtlcbfkiknejdnaaGreatDoorTie
import Derived.ProofKit
import Derived.OpenShut
import Derived.Carry
import Derived.Deep.DeepHandedRow
import Derived.Lib.LaidTab
import Derived.Stop.LaidErr
import Derived.Lay
import Derived.MakeChecks
import Derived.Shelf.Vars
import Derived.ChangeMaps5
import Derived.ChangeSame
import Derived.Deep.SlicePairs
set_option linter.all false
set_option maxRecDepth 100000
set_option maxHeartbeats 8000000
namespace Go.Proofs.YtlcbfkiknejdnaaGreatDoor
open Go Go.RowKit

noncomputable def heK (mass:Int) (a t:List UInt8) (ls:List Bd) (n:Nat):Int:=if jwJ ls n=0 then (if jhc mass a t=0 then jx2 ls (numQ a) (numQ t) else jhc mass a t) else jwJ ls n
noncomputable def heT (mass:Int) (a t:List UInt8) (ls:List Bd) (n:Nat):List UInt8:=if heK mass a t ls n=0 then tq (enS mass (numQ a) (numQ t) ls n) else []
section
variable {w:World} {A:Option Addr} {n c:Nat} {ls:List Bd} {a t:List UInt8} {mass:Int}
theorem jwE {k:Nat} (h:jwJ ls n=0) (hlen:ls.length=n) (hl:∀l∈ls,l.1.length≤k+2∧l.2.1.length≤k+2∧l.2.2.length≤k+2):(0 < n∧n≤64)∧∀i,i < n→BdOk (k+2) (ls.getD i ([],[],[])) (numQ (ls.getD i ([],[],[])).1) (numQ (ls.getD i ([],[],[])).2.1) (numQ (ls.getD i ([],[],[])).2.2)∧(IsNum (ls.getD i ([],[],[])).1 (numQ (ls.getD i ([],[],[])).1)∧IsNum (ls.getD i ([],[],[])).2.1 (numQ (ls.getD i ([],[],[])).2.1)∧IsNum (ls.getD i ([],[],[])).2.2 (numQ (ls.getD i ([],[],[])).2.2))∧((numQ (ls.getD i ([],[],[])).1).den≤10^k∧(numQ (ls.getD i ([],[],[])).2.1).den≤10^k∧(numQ (ls.getD i ([],[],[])).2.2).den≤10^k):=by
 unfold jwJ at h;by_cases h1:n=0
 ·rw [if_pos h1] at h;cases h
 rw [if_neg h1] at h;by_cases h2:64 < n
 ·rw [if_pos h2] at h;cases h
 rw [if_neg h2] at h;refine ⟨by omega,fun i hi=> ?_⟩;have e:=jdI h i (List.mem_range.2 hi);have hm:ls.getD i ([],[],[])∈ls:=by rw [List.getD_eq_getElem?_getD,List.getElem?_eq_getElem (by omega)];exact List.getElem_mem _
 have l:=hl _ hm;have o:=jxk e l (by omega)
 have n0:IsNum (ls.getD i ([],[],[])).1 (numQ (ls.getD i ([],[],[])).1)∧IsNum (ls.getD i ([],[],[])).2.1 (numQ (ls.getD i ([],[],[])).2.1)∧IsNum (ls.getD i ([],[],[])).2.2 (numQ (ls.getD i ([],[],[])).2.2):=by
  unfold bdE at e;by_cases h0:bdC (ls.getD i ([],[],[]))=0
  ·obtain ⟨z0,z1,z2⟩:=jwv h0;exact ⟨jjb z0,jjb z1,jjb z2⟩
  ·rw [if_neg h0] at e;exact absurd e h0
 exact ⟨o,n0,n0.1.dd l.1,n0.2.1.dd l.2.1,n0.2.2.dd l.2.2⟩
theorem jwP {K:Int} {T:List UInt8} (hE:Env w) (h:Bv w A n ls) (hn:n≤6∨64 < n∧n≤70) (hl:∀l∈ls,l.1.length≤30∧l.2.1.length≤30∧l.2.2.length≤30) (hla:a.length≤30) (hlb:t.length≤30) (hK:heK mass a t ls n=K) (hT:heT mass a t ls n=T):
  Calls Tryz.prog 6 #[.slice A n c, .int .i64 mass,bs a,bs t] w fun e w'=>e= .returned (.tuple #[bs T, .int .i64 K])∧Below w.heap.size w w':=by
 have hl2:∀l∈ls,l.1.length < 4294967281∧l.2.1.length < 4294967281∧l.2.2.length < 4294967281:=fun l hm=>by have:=hl l hm;omega
 unfold heT at hT;rw [hK] at hT;unfold heK at hK;by_cases h1:jwJ ls n=0
 ·rw [if_pos h1] at hK;by_cases h2:jhc mass a t=0
  ·rw [if_pos h2] at hK;obtain ⟨⟨n0,n1⟩,hall⟩:=jwE (k:=28) h1 h.len hl;by_cases h3:jx2 ls (numQ a) (numQ t)=0
   ·rw [h3] at hK;subst hK;rw [if_pos rfl] at hT;subst hT;obtain ⟨⟨m1,m2⟩,hx,hy,_⟩:=jcg h2;have dx:=hx.num.dzl hla (by omega);have dy:=hy.num.dzl hlb (by omega);have hB:=fun i hi=>(hall i hi).1
    have hN:=fun i hi=>(hall i hi).2.1
    have hD:=fun i hi=>(hall i hi).2.2
    have hd:=jwX m1 m2 dx dy hx.high hB;exact jwD (k:=30) (K:=2000) hE h (by omega) n0 hl2 h1 (by omega) (by omega) h2 rfl rfl h3 hB hN dx dy (by omega) (fun i hi=>(hd i hi).mono (by omega)) (by omega) (jx1 (by omega) m1 m2 hx.low hx.high hy.low (hx.num.dd (k:=28) hla) (hy.num.dd (k:=28) hlb) hB hD)
   ·have h4:jx2 ls (numQ a) (numQ t)=3:=by
     unfold jx2 at h3 ⊢;split at h3
     ·rename_i h;rw [if_pos h]
     ·exact absurd rfl h3
    rw [h4] at hK;subst hK;rw [if_neg (by decide)] at hT;subst hT;exact jwR hE h (by omega) hl2 h1 n0 (by omega) (by omega) h2 (fun i hi=>(hall i hi).1) (fun i hi=>⟨(hall i hi).2.1.1,(hall i hi).2.1.2.1⟩) h4
  ·rw [if_neg h2] at hK;rw [if_neg (by rw [←hK];exact h2)] at hT;subst hT;exact jwQ hE h (by omega) hl2 h1 (by omega) (by omega) hK (by rw [←hK];exact h2)
 ·rw [if_neg h1] at hK;rw [if_neg (by rw [←hK];exact h1)] at hT;subst hT;exact jwz hE h (by omega) hl2 hK (by rw [←hK];exact h1)
set_option maxHeartbeats 16000000 in
theorem jwT (hE:Env w) (h:Bv w A n ls) (hb:ls.all bdS=true) (hab:([a,t].all fun l=>decide (l.length≤30))=true) (hn:n≤6∨64 < n∧n≤70):
  Calls Tryz.prog 3 #[.slice A n c, .agg #[.int .i64 mass,bs a,bs t]] w fun e w'=>e= .returned (.bool true)∧Below w.heap.size w w':=by
 have hl:∀l∈ls,l.1.length≤30∧l.2.1.length≤30∧l.2.2.length≤30:=fun l hm=>by simpa [bdS] using List.all_eq_true.1 hb l hm
 have hlab:a.length≤30∧t.length≤30:=by simpa using hab
 obtain ⟨K,hK⟩:∃K,heK mass a t ls n=K:=⟨_,rfl⟩;obtain ⟨T,hT⟩:∃K,heT mass a t ls n=K:=⟨_,rfl⟩;obtain ⟨D,hD⟩:∃K,jwJ ls n=K:=⟨_,rfl⟩;obtain ⟨Y,hY⟩:∃K,jhc mass a t=K:=⟨_,rfl⟩;obtain ⟨C,hC⟩:∃K,jx2 ls (numQ a) (numQ t)=K:=⟨_,rfl⟩;have HA:=qh (fun W (hb:Below w.heap.size w W)=>hE.awake6 hb);have HEN0:=qh (fun W (hb:Below w.heap.size w W)=>jwP (c:=c) (hE.below hb) (h.below hb) hn hl hlab.1 hlab.2 hK hT);have HRB0:=qh (fun W (hb:Below w.heap.size w W)=>jwW (c:=c) (h.below hb) (by omega) hl hD);have HPB0:=qh (fun W (hb:Below w.heap.size w W)=>jws (c:=c) (hE.below hb) (h.below hb) (by omega) (fun l hm=>by have:=hl l hm;omega) hD);have HW:=qh (fun W=>jj0 (w:=W) hY (by omega) (by omega))
 have HG:Hid (D=0→Y=0→∀W (_:Below w.heap.size w W),Calls Tryz.prog 11 #[.slice A n c,bs a,bs t] W fun e w'=>e= .returned (.int .i64 C)∧Below W.heap.size W w'):=qh (fun d0 y0 W hb=>by
  obtain ⟨⟨n0,n1⟩,hall⟩:=jwE (k:=28) (hD.trans d0) h.len hl;obtain ⟨_,hx,hy,_⟩:=jcg (hY.trans y0);have:=jwL (c:=c) (h.below hb) n0 (by omega) (fun i hi=>(hall i hi).1) (hx.num.dzl hlab.1 (by omega)) (hy.num.dzl hlab.2 (by omega)) (by omega) (by omega) hC
  rwa [←hx.num.eq,←hy.num.eq] at this)
 have HR:Hid (D=0→Y=0→∀W (_:Below w.heap.size w W),Calls Tryz.prog 12 #[.slice A n c, .int .i64 mass,bs a,bs t] W (QP (enS mass (numQ a) (numQ t) ls n) W)):=qh (fun d0 y0 W hb=>by
  obtain ⟨⟨n0,n1⟩,hall⟩:=jwE (k:=28) (hD.trans d0) h.len hl;obtain ⟨⟨m1,m2⟩,hx,hy,_⟩:=jcg (hY.trans y0);have:=jwO (c:=c) (h.below hb) (by omega) m1 m2 (hx.num.dzl hlab.1 (by omega)) (hy.num.dzl hlab.2 (by omega)) hx.high (fun i hi=>(hall i hi).1)
  rwa [←hx.num.eq,←hy.num.eq] at this)
 unfold heT at hT;rw [hK] at hT;unfold heK at hK;rw [hD,hY,hC] at hK;have HKT:=qh (And.intro hK hT);have H:=qh h;have HN:=qh hn;have HB:=qh hb;have HAB:=qh hab;clear hE h hn hb hab hl hlab hK hT hD hY hC;go_enter Tryz.func3,Tryz.ntmps3;go_wp2
 go_loopw [13] (fun u wr=>∃(i:Nat),u= .int .i64 (i:Int)∧i≤n∧Below w.heap.size w wr∧wr.cell? ⟨w.heap.size,0,none⟩=some (.int .i64 mass)∧wr.cell? ⟨w.heap.size,1,none⟩=some (bs a)∧wr.cell? ⟨w.heap.size,2,none⟩=some (bs t)) (fun u _=>n - (intOf u).toNat)
 case atStart=>exact ⟨0,rfl,Nat.zero_le _,bi,by simp [go_sem],by simp [go_sem],by simp [go_sem]⟩
 case round=>
  obtain ⟨i,rfl,hin,hb,v0,v1,v2⟩:=hrel;have _:=bm hb;have hnn:=HN.out;have vz:w.heap.size < wr.heap.size:=World.block_lt_of_cell? wr _ v0;by_cases hi:i < n
  ·have q0:decide ((i:Int) < (n:Int))=true:=by simp;exact hi
   have q9:decide (i < n)=true:=by simpa using hi
   obtain ⟨b,o,rfl,hbl,hcell⟩:=(H.out.below hb).at_ (by omega);obtain ⟨y0,y1,y2⟩:=hcell i hi;have hil:i < ls.length:=by rw [H.out.len];exact hi
   have hmem:ls.getD i ([],[],[])∈ls:=by rw [List.getD_eq_getElem?_getD,List.getElem?_eq_getElem hil];exact List.getElem_mem hil
   have hf:=List.all_eq_true.1 HB.out _ hmem;obtain ⟨⟨x0,x1,x2⟩,hx⟩:∃x,ls.getD i ([],[],[])=x:=⟨_,rfl⟩;rw [hx] at y0 y1 y2 hf;dsimp only at y0 y1 y2
   have HF:Hid (Calls Tryz.prog 4 #[.slice (some ⟨wr.heap.size+1,0,none⟩) 3 3] ((wr.alloc (.cells #[bs x0,bs x1,bs x2] 27)).alloc (.cells #[bs x0,bs x1,bs x2] 23)) fun e w'=>e= .returned (.bool true)∧Below ((wr.alloc (.cells #[bs x0,bs x1,bs x2] 27)).alloc (.cells #[bs x0,bs x1,bs x2] 23)).heap.size ((wr.alloc (.cells #[bs x0,bs x1,bs x2] 27)).alloc (.cells #[bs x0,bs x1,bs x2] 23)) w'):=qh (by
    have h:=Sv.three (wr.alloc (.cells #[bs x0,bs x1,bs x2] 27)) 23 x0 x1 x2;rw [World.size_alloc] at h
    exact jgr h (by omega) hf)
   have HI:=qh hi;clear hf hx hil hcell hmem;go_wp2_with (go_at_call 4;(with_reducible refine mo0 (HF.out) fun w1 hb1 hc1 hf1 _=> ?_))
   have b1:Below wr.heap.size wr w1:=bi;exact ⟨⟨i+1,by simp,HI.out,ja0 hb b1,ja9 b1 v0,ja9 b1 v1,ja9 b1 v2⟩,by have:=HI.out;simp [intOf];omega⟩
  ·have q0:decide (i < n)=false:=by simp;omega
   have HF:Hid (Calls Tryz.prog 4 #[.slice (some ⟨wr.heap.size,0,none⟩) 2 2] (wr.alloc (.cells #[bs a,bs t] 23)) fun e w'=>e= .returned (.bool true)∧Below (wr.alloc (.cells #[bs a,bs t] 23)).heap.size (wr.alloc (.cells #[bs a,bs t] 23)) w'):=qh (jgr (ls:=[a,t]) ⟨rfl,fun _=>⟨wr.heap.size,0,rfl,by simp,fun j hj=>by
    match j,hj with
    | 0,_=>simp
    | 1,_=>simp⟩⟩ (by omega) HAB.out)
   have hbb:=hb;have HEN:=qh (fun W (h:Below wr.heap.size wr W)=>HEN0.out W (ja0 hbb h));have HRB:=qh (fun W (h:Below wr.heap.size wr W)=>HRB0.out W (ja0 hbb h));have HPB:=qh (fun W (h:Below wr.heap.size wr W)=>HPB0.out W (ja0 hbb h));have p0:∃f2,decide ((6:Int) < (n:Int))=f2∧(f2=true→decide ((n:Int)≤64)=false):=⟨_,rfl,fun h=>by rw [decide_eq_true_iff] at h;rw [decide_eq_false_iff_not];omega⟩;have p3:decide ((70:Int) < (n:Int))=false:=by rw [decide_eq_false_iff_not];omega
   obtain ⟨f2,p1,p2⟩:=p0;have HP2:=qh p2;clear hi hnn p2;go_upto_region 7 with (fail)
   go_cut [49] (fun v wx=>v= .bool false∧Below wr.heap.size wr wx)
   case first=>
    cases f2 with
    | false=>
      go_wp2_with (go_at_call 4;(with_reducible refine mo0 (HF.out) fun w1 hb1 hc1 hf1 _=> ?_))
      go_meet;exact ⟨rfl,bi⟩
    | true=>
      have p2:=HP2.out rfl;go_wp2_with (go_at_call 4;(with_reducible refine mo0 (HF.out) fun w1 hb1 hc1 hf1 _=> ?_))
      go_meet;exact ⟨rfl,bi⟩
   case rest=>
    rename World=>wx
    obtain ⟨rfl,bx⟩:=hcut;replace v0:=ja9 bx v0;replace v1:=ja9 bx v1;replace v2:=ja9 bx v2;have vz:=World.block_lt_of_cell? wx _ v0;dsimp only at vz;have _:Sl w.heap.size wx.heap.size:=⟨vz⟩;have hbb:=ja0 hbb bx;have HEN:=qh (fun W (h:Below wx.heap.size wx W)=>HEN.out W (ja0 bx h));have HRB:=qh (fun W (h:Below wx.heap.size wx W)=>HRB.out W (ja0 bx h));have HPB:=qh (fun W (h:Below wx.heap.size wx W)=>HPB.out W (ja0 bx h));clear hb bx p1 p3 HP2 HF HEN0 HRB0 HPB0;obtain ⟨hK,hT⟩:=HKT.out;by_cases d0:D=0
    ·subst d0;rw [if_pos rfl] at hK;by_cases y0:Y=0
     ·subst y0;rw [if_pos rfl] at hK;subst hK;have HFZ:Hid (jkz [(0:Int),0]=0):=qh rfl;have HCO:=qh (fun W (h:Below wx.heap.size wx W)=>HG.out rfl rfl W (ja0 hbb h));by_cases c0:C=0
      ·subst c0;rw [if_pos rfl] at hT;have HRE:=qh (fun W (h:Below wx.heap.size wx W)=>HR.out rfl rfl W (ja0 hbb h));unfold QP at HRE;obtain ⟨S,hS⟩:∃S,tq (enS mass (numQ a) (numQ t) ls n)=S:=⟨_,rfl⟩;simp only [hS] at HRE hT;subst hT;clear hS HKT HG HR;go_wp2_with (first|((go_at_call 11;(with_reducible refine mo0 (HCO.out _ bi) fun w7 hb7 hc7 hf7 _=> ?_));have y7_0:=zlt (w.heap.size) hb7)|(go_at_call 12;(with_reducible refine mo0 (HRE.out _ bi) fun w8 hb8 hc8 hf8 _=> ?_))|((go_at_call 6;(with_reducible refine mo0 (HEN.out _ bi) fun w2 hb2 hc2 hf2 _=> ?_));have y2_0:=zlt (w.heap.size) hb2)|((go_at_call 7;(with_reducible refine mo0 (HRB.out _ bi) fun w3 hb3 hc3 hf3 _=> ?_));have y3_0:=zlt (w.heap.size) hb3)|((go_at_call 8;(with_reducible refine mo0 (HPB.out _ bi) fun w4 hb4 hc4 hf4 _=> ?_));have y4_0:=zlt (w.heap.size) hb4)|((go_at_call 10;(with_reducible refine mo0 (HW.out _) fun w5 hb5 hc5 hf5 _=> ?_));have y5_0:=zlt (w.heap.size) hb5)|((go_at_call 9;(with_reducible refine mo0 (jwr iv2 (by omega) HFZ.out) fun w6 hb6 hc6 hf6 _=> ?_));have y6_0:=zlt (w.heap.size) hb6)|((go_at_call 13;(with_reducible refine mo0 (jgi (x:=S) (want:=S) (k:=0) (fun h=>absurd rfl h) (fun _=>rfl)) fun w9 hb9 hc9 hf9 _=> ?_));have y9_0:=zlt (w.heap.size) hb9)|((go_at_call 5;(with_reducible refine mo0 (HA.out _ (ja0 hbb bi)) fun w10 hb10 hc10 hf10 _=> ?_));have y10_0:=zlt (w.heap.size) hb10))
       go_ret;exact ⟨rfl,ja0 hbb bi⟩
      ·rw [if_neg c0] at hT;subst hT;have q1:(C==0)=false:=by rw [beq_eq_false_iff_ne];exact c0
       clear c0 HKT HG HR;go_wp2_with (first|((go_at_call 11;(with_reducible refine mo0 (HCO.out _ bi) fun w7 hb7 hc7 hf7 _=> ?_));have y7_0:=zlt (w.heap.size) hb7)|((go_at_call 6;(with_reducible refine mo0 (HEN.out _ bi) fun w2 hb2 hc2 hf2 _=> ?_));have y2_0:=zlt (w.heap.size) hb2)|((go_at_call 7;(with_reducible refine mo0 (HRB.out _ bi) fun w3 hb3 hc3 hf3 _=> ?_));have y3_0:=zlt (w.heap.size) hb3)|((go_at_call 8;(with_reducible refine mo0 (HPB.out _ bi) fun w4 hb4 hc4 hf4 _=> ?_));have y4_0:=zlt (w.heap.size) hb4)|((go_at_call 10;(with_reducible refine mo0 (HW.out _) fun w5 hb5 hc5 hf5 _=> ?_));have y5_0:=zlt (w.heap.size) hb5)|((go_at_call 9;(with_reducible refine mo0 (jwr iv2 (by omega) HFZ.out) fun w6 hb6 hc6 hf6 _=> ?_));have y6_0:=zlt (w.heap.size) hb6)|((go_at_call 13;(with_reducible refine mo0 (jgi (x:=[]) (want:=[]) (k:=C) (fun _=>rfl) (fun _=>rfl)) fun w9 hb9 hc9 hf9 _=> ?_));have y9_0:=zlt (w.heap.size) hb9)|((go_at_call 5;(with_reducible refine mo0 (HA.out _ (ja0 hbb bi)) fun w10 hb10 hc10 hf10 _=> ?_));have y10_0:=zlt (w.heap.size) hb10))
       go_ret;exact ⟨rfl,ja0 hbb bi⟩
     ·rw [if_neg y0] at hK;subst hK;rw [if_neg y0] at hT;subst hT;have q1:(Y==0)=false:=by rw [beq_eq_false_iff_ne];exact y0
      have HFZ:Hid (jkz [(0:Int),Y]=Y):=qh (by unfold jkz;rw [if_pos rfl];unfold jkz;rw [if_neg y0]);clear y0 HKT HG HR;go_wp2_with (first|((go_at_call 6;(with_reducible refine mo0 (HEN.out _ bi) fun w2 hb2 hc2 hf2 _=> ?_));have y2_0:=zlt (w.heap.size) hb2)|((go_at_call 7;(with_reducible refine mo0 (HRB.out _ bi) fun w3 hb3 hc3 hf3 _=> ?_));have y3_0:=zlt (w.heap.size) hb3)|((go_at_call 8;(with_reducible refine mo0 (HPB.out _ bi) fun w4 hb4 hc4 hf4 _=> ?_));have y4_0:=zlt (w.heap.size) hb4)|((go_at_call 10;(with_reducible refine mo0 (HW.out _) fun w5 hb5 hc5 hf5 _=> ?_));have y5_0:=zlt (w.heap.size) hb5)|((go_at_call 9;(with_reducible refine mo0 (jwr iv2 (by omega) HFZ.out) fun w6 hb6 hc6 hf6 _=> ?_));have y6_0:=zlt (w.heap.size) hb6)|((go_at_call 13;(with_reducible refine mo0 (jgi (x:=[]) (want:=[]) (k:=Y) (fun _=>rfl) (fun _=>rfl)) fun w9 hb9 hc9 hf9 _=> ?_));have y9_0:=zlt (w.heap.size) hb9)|((go_at_call 5;(with_reducible refine mo0 (HA.out _ (ja0 hbb bi)) fun w10 hb10 hc10 hf10 _=> ?_));have y10_0:=zlt (w.heap.size) hb10))
      go_ret;exact ⟨rfl,ja0 hbb bi⟩
    ·rw [if_neg d0] at hK;subst hK;rw [if_neg d0] at hT;subst hT;have q1:(D==0)=false:=by rw [beq_eq_false_iff_ne];exact d0
     have HFZ:Hid (jkz [D,Y]=D):=qh (by unfold jkz;rw [if_neg d0]);clear d0 HKT HG HR;go_wp2_with (first|((go_at_call 6;(with_reducible refine mo0 (HEN.out _ bi) fun w2 hb2 hc2 hf2 _=> ?_));have y2_0:=zlt (w.heap.size) hb2)|((go_at_call 7;(with_reducible refine mo0 (HRB.out _ bi) fun w3 hb3 hc3 hf3 _=> ?_));have y3_0:=zlt (w.heap.size) hb3)|((go_at_call 8;(with_reducible refine mo0 (HPB.out _ bi) fun w4 hb4 hc4 hf4 _=> ?_));have y4_0:=zlt (w.heap.size) hb4)|((go_at_call 10;(with_reducible refine mo0 (HW.out _) fun w5 hb5 hc5 hf5 _=> ?_));have y5_0:=zlt (w.heap.size) hb5)|((go_at_call 9;(with_reducible refine mo0 (jwr iv2 (by omega) HFZ.out) fun w6 hb6 hc6 hf6 _=> ?_));have y6_0:=zlt (w.heap.size) hb6)|((go_at_call 13;(with_reducible refine mo0 (jgi (x:=[]) (want:=[]) (k:=D) (fun _=>rfl) (fun _=>rfl)) fun w9 hb9 hc9 hf9 _=> ?_));have y9_0:=zlt (w.heap.size) hb9)|((go_at_call 5;(with_reducible refine mo0 (HA.out _ (ja0 hbb bi)) fun w10 hb10 hc10 hf10 _=> ?_));have y10_0:=zlt (w.heap.size) hb10))
     go_ret;exact ⟨rfl,ja0 hbb bi⟩
theorem jwN (hE:Env w) (h:Bv w A n ls) (hn:n < 9223372036854775808):
  Calls Tryz.prog 3 #[.slice A n c, .agg #[.int .i64 mass,bs a,bs t]] w fun e w'=>e= .returned (.bool true)∧Below w.heap.size w w':=by
 cases hb:ls.all bdS with
 | false=>exact jwM hE h hn hb
 | true=>
   by_cases ho:([a,t].all fun l=>decide (l.length≤30))=false∨(6 < n∧n≤64)∨70 < n
   ·exact jwU hE h hn hb ho
   ·rw [not_or] at ho;exact jwT hE h hb (by simpa using ho.1) (by omega)
end
end Go.Proofs.YtlcbfkiknejdnaaGreatDoor
namespace Go.Proofs.YtlcbfkiknejdnaaGreatDoor
open Go Go.ChangeShapes Go.WideShapes Go.ChangeAt Go.RowKit

theorem own:ownKnob Tryz.prog.godebug=none:=by kernel_rfl
theorem jix:laidOutB Tryz.prog=true:=by kernel_rfl
theorem jw6 : Tryz.prog.globalNamed "internal/strconv.uint64pow10" = some 5 := by kernel_rfl
theorem jpM:(Tryz.prog.globals[5]?).map (·.type)=some 311:=by kernel_rfl
theorem jq2:Tryz.prog.cellsOf 311=20:=by kernel_rfl
theorem joE:Tryz.prog.cellsOf 202=1:=by kernel_rfl
theorem laidMetH.plain {l:List (String×DataW Unit)} {W:World} (h:laidMetH Tryz.prog l W) (hp:(l.all fun x=>x.2.handleName?.isNone)=true):laidMet Tryz.prog l W:=by
 rw [MakeChecks.laidMetH_plain _ _ _ hp] at h;exact h
theorem jtM {W : World} {l : List (String × DataW Unit)} (h : laidMet Tryz.prog (("internal/strconv.uint64pow10", Rows.laid_internal_strconv_uint64pow10) :: l) W) (hs : W.ShapedOpen Tryz.prog) : Env W := by
 obtain ⟨m,hm⟩:=Go.Proofs.cell_of_shapedOpen_int (g:=0) (zero:= #[.int .i64 0]) (t:=3) hs (of_decide_eq_true (by kernel_rfl)) (by kernel_rfl) rfl (by kernel_rfl) (by kernel_rfl) Tryz.underlying3;exact ⟨Lib.tabBelow_of_tabIs (Lib.tabIs_of_head (zs:=Lib.pow10Tab) jw6 jpM Tryz.underlying311 Tryz.underlying202 joE jq2 h),⟨m,hm⟩,World.block_lt_of_cell? W ⟨0,0,none⟩ hm⟩
end Go.Proofs.YtlcbfkiknejdnaaGreatDoor
namespace Go.Proofs.YtlcbfkiknejdnaaGreatDoor
open Go Go.ChangeShapes Go.WideShapes Go.ChangeAt Go.RowKit Go.ChangeMaps

end Go.Proofs.YtlcbfkiknejdnaaGreatDoor
namespace Go.Proofs.YtlcbfkiknejdnaaGreatDoor
open Go Go.ChangeShapes Go.WideShapes Go.ChangeAt Go.RowKit Go.Deep Go.Joins

theorem jwS {H:Type} {enc:TypeId×Value→H} {W:World} {A:Option Addr} {n c fuel:Nat} {x:DataW H×List MemPlace} (h:DataW.trod enc Tryz.prog W 0 (fun _=>true) true fuel 22 [.slice A n c]=some x):∃ls,Bv W A n ls∧n < 9223372036854775808:=by
 rcases Go.Deep.open_slice Tryz.underlying22 h with ⟨hcs,_⟩|⟨a,len,cap,m,fu,D,Pl,hcs,_,hl,hm,hz,_,hx⟩
 ·simp at hcs;obtain ⟨rfl,rfl,rfl⟩:=hcs;exact ⟨[],⟨rfl,fun h=>by omega⟩,by omega⟩
 ·simp at hcs;obtain ⟨rfl,rfl,rfl⟩:=hcs;simp only [if_true] at hz;obtain ⟨b,off,spot⟩:=a;have hc:Tryz.prog.cellsOf 27=3:=by kernel_rfl
  have hs:Tryz.prog.cellsOf 23=1:=by kernel_rfl
  have hbig:n < 9223372036854775808:=by unfold maxLen at hm;omega
  obtain ⟨f0,f1,f2,hu,ht0,ht1,ht2,ho0,ho1,ho2⟩:∃f0 f1 f2:Field,Tryz.prog.underlying 27=some (.struct #[f0,f1,f2])∧f0.type=23∧f1.type=23∧f2.type=23∧f0.offset=0∧f1.offset=1∧f2.offset=2:=⟨_,_,_,Tryz.underlying27,rfl,rfl,rfl,rfl,rfl,rfl⟩;rcases Nat.eq_zero_or_pos n with h0|h0
  ·subst h0;exact ⟨[],⟨rfl,fun h=>by omega⟩,hbig⟩
  have hspot:spot=none:=by
   obtain ⟨cs',h1,_⟩:=hx 0 (by omega);rw [hc] at h1;obtain ⟨_,hlen,hcell⟩:=World.cells?_some h1
   match cs',hlen with
   | [v0,v1,v2],_=>
     have e0:=hcell 0 (by omega);simpa [Addr.add] using World.cell?_spot e0
  subst hspot;have ea:∀o i,(⟨b,o,none⟩:Addr).add i=⟨b,o+i,none⟩:=fun o i=>by unfold Addr.add;split <;> simp_all
  have each:∀i,i < n→∃y:Bd,b < W.heap.size∧W.cell? ⟨b,off+i*3,none⟩=some (bs y.1)∧W.cell? ⟨b,off+i*3+1,none⟩=some (bs y.2.1)∧W.cell? ⟨b,off+i*3+2,none⟩=some (bs y.2.2):=by
   intro i hin;obtain ⟨cs',h1,h2⟩:=hx i (by omega);rw [hc] at h1;obtain ⟨_,hlen,hcell⟩:=World.cells?_some h1
   obtain ⟨xs,k,hk,hxy,_,hxl,hf⟩:=DataW.trod_struct hu h2
   match xs,hxl,cs',hlen with
   | [y0,y1,y2],_,[v0,v1,v2],_=>
     have g0:=hf 0 f0 rfl;have g1:=hf 1 f1 rfl;have g2:=hf 2 f2 rfl;rw [ht0,hs,ho0] at g0;rw [ht1,hs,ho1] at g1;rw [ht2,hs,ho2] at g2;obtain ⟨s0,k0,_,_⟩:=DataW.trod_string Tryz.underlying23 g0;obtain ⟨s1,k1,_,_⟩:=DataW.trod_string Tryz.underlying23 g1;obtain ⟨s2,k2,_,_⟩:=DataW.trod_string Tryz.underlying23 g2;simp at k0 k1 k2;subst k0 k1 k2;have e0:=hcell 0 (by omega);have e1:=hcell 1 (by omega);have e2:=hcell 2 (by omega);rw [ea,ea] at e0 e1 e2;simp only [Nat.add_zero] at e0;exact ⟨(s0.data.toList,s1.data.toList,s2.data.toList),World.block_lt_of_cell? W _ e0,by simpa using e0,by simpa using e1,by simpa using e2⟩
  have:Inhabited Bd:=⟨([],[],[])⟩;obtain ⟨f,hf⟩:=Go.Deep.choose_lt each;refine ⟨(List.range n).map f,⟨by simp,fun _=>⟨b,off,rfl,(hf 0 h0).1,fun j hj=> ?_⟩⟩,hbig⟩;rw [List.getD_eq_getElem?_getD,List.getElem?_map,List.getElem?_range hj,Option.map_some,Option.getD_some];exact (hf j hj).2
abbrev jxo (m:Int) (a b:List UInt8):Value:= .agg #[.int .i64 m,bs a,bs b]
theorem jx8 {H:Type} {enc:TypeId×Value→H} {W:World} {sp:Nat→Bool} {held:Bool} {r:Reach} {b0 base:Nat} {v:Value} {d:DataW H} {ps:List MemPlace} (hval:Value.okWide Tryz.prog W r b0 25 v) (hd:DataW.Trod enc Tryz.prog W base sp held 25 v d ps):
  ∃(m:Int) (a b:List UInt8),v=jxo m a b∧ps=[]:=by
 have hc:Tryz.prog.cellsOf 25=3:=by kernel_rfl
 obtain ⟨f0,f1,f2,hu,e0,e1,e2⟩:∃f0 f1 f2:Field,Tryz.prog.underlying 25=some (.struct #[f0,f1,f2])∧f0.type=3∧f1.type=23∧f2.type=23:=⟨_,_,_,Tryz.underlying25,rfl,rfl,rfl⟩
 have hone:oneCellFields Tryz.prog #[f0,f1,f2]=true:=by
  have:(match Tryz.prog.underlying 25 with|some (.struct fs)=>oneCellFields Tryz.prog fs | _=>false)=true:=by kernel_rfl
  rw [hu] at this;exact this
 obtain ⟨v0,v1,v2,y0,y1,y2,n,rfl,_,hp,h0,h1,h2⟩:=open_agg3 hu hone hc hval hd;rw [e0] at h0;rw [e1] at h1;rw [e2] at h2;obtain ⟨z0,k0,x0,_⟩:=DataW.trod_int Tryz.underlying3 h0;obtain ⟨z1,k1,x1,_⟩:=DataW.trod_string Tryz.underlying23 h1;obtain ⟨z2,k2,x2,_⟩:=DataW.trod_string Tryz.underlying23 h2;simp at k0 k1 k2;subst k0 k1 k2;exact ⟨z0,z1.data.toList,z2.data.toList,rfl,by rw [hp,x0,x1,x2];rfl⟩
end Go.Proofs.YtlcbfkiknejdnaaGreatDoor
namespace Go.Proofs.YtlcbfkiknejdnaaGreatDoor
open Go Go.ChangeShapes Go.WideShapes Go.ChangeAt Go.RowKit

theorem jx3 (os:Os):laidMet Tryz.prog Rows.dryHeatsRow.laid ((World.laidAll Tryz.prog os Rows.dryHeatsRow.laid).forCall (fun _ _=>0) ⟨#[], #[.slice none 0 0, .agg #[.int .i64 0, .string ⟨#[]⟩, .string ⟨#[]⟩]],[]⟩).memory:=
 laidMet_laidAll _ (by kernel_rfl) (by kernel_rfl)
theorem jwG (os:Os) {H:Type} (enc:TypeId×Value→H):∃places,DataW.whole enc Tryz.prog ((World.laidAll Tryz.prog os Rows.dryHeatsRow.laid).forCall (fun _ _=>0) ⟨#[], #[.slice none 0 0, .agg #[.int .i64 0, .string ⟨#[]⟩, .string ⟨#[]⟩]],[]⟩).memory Tryz.f3.params.toList Rows.dryHeatsSpec.vars false #[Value.slice none 0 0, .agg #[.int .i64 0, .string ⟨#[]⟩, .string ⟨#[]⟩]].toList 8=some ([.nil, .agg [.lit (.int .i64 0), .lit (.string []), .lit (.string [])]],[],places):=
 ⟨[],by kernel_rfl⟩
theorem jwx (H:Type) (enc:TypeId×Value→H) (W:World) (base:Nat) (args:Array Value) (ds gs:List (DataW H)) (before:List MemPlace)
  (hval:∀(j:Nat) t v,Tryz.f3.params[j]? =some t→args[j]? =some v→Value.okWide Tryz.prog W .any base t v)
  (hW:DataW.Whole enc Tryz.prog Tryz.f3.params.toList Rows.dryHeatsSpec.vars false W args.toList ds gs before) (hL:laidMetH Tryz.prog Rows.dryHeatsRow.laid W) (hS:W.ShapedOpen Tryz.prog):
  Calls Tryz.prog 3 args W fun e W'=>∃v,e= .returned v∧Rows.dryHeatsSpec.post enc Tryz.prog Tryz.f3 false true false false W args v W':=by
 have hE:Env W:=jtM (laidMetH.plain hL (by kernel_rfl)).tail.tail hS;have hW':=hW;obtain ⟨p,q,hA0,hV,rfl,hfz,hnd⟩:=hW;have hA:DataW.TrodAll enc Tryz.prog W 0 (fun _=>true) true Tryz.f3.params.toList args.toList ds p:=hA0;rw [Tryz.params3] at hA hval;obtain ⟨v0,v1,d0,d1,p0,p1,rfl,rfl,rfl,h0,h1⟩:=trodAll_two hA;obtain ⟨rfl,rfl⟩:=trodVars_none hV;obtain ⟨A0,n0,c0,rfl⟩:=okWide_slice Tryz.underlying22 (hval 0 22 v0 rfl rfl);have h0k:=h0;obtain ⟨fuel0,hf0⟩:=h0;obtain ⟨m1,a1,b1,rfl,rfl⟩:=jx8 (hval 1 25 v1 rfl rfl) h1;simp only [List.append_nil,List.nil_append] at hW';have hlt0:∀y∈p0,y.block < W.heap.size:=fun y hy=>by simpa using hW'.lt y (by simp [hy])
 obtain ⟨ls0,hv0,hc0⟩:=jwS hf0;have walk:Calls Tryz.prog 3 #[.slice A0 n0 c0,jxo m1 a1 b1] W fun e w'=>e= .returned (.bool true)∧Below W.heap.size W w':=jwN hE hv0 hc0 
 refine walk.mono fun e W' ⟨he,hb⟩=> ?_
 subst he;exact ⟨_,rfl,_,_,_,[],p0,[],hW',trodAll_mk1 (shut_bool Tryz.underlying4 _),(by have h:=trodAll_mk2 (p:=p0) (p':=[]) (Below.trod jix (by kernel_rfl) (of_decide_eq_true (by kernel_rfl)) h0k hb hlt0) (Below.trod jix (by kernel_rfl) (of_decide_eq_true (by kernel_rfl)) h1 hb (fun y hy=>by cases hy));first|exact h|(simp only [List.append_nil,List.nil_append] at h;exact h)),rfl,hb.frame _,fun h=>by cases h⟩
theorem jwA (os:Os) (started:os.Started) (H:Type) (enc:TypeId×Value→H) (F:Stop.Interp):
  ReturnsInHanded {} Tryz.checked os 3 .any ((OpenSpec.ofChange Rows.dryHeatsSpec).preRow enc Tryz.prog Tryz.f3 Rows.dryHeatsRow.domain false Rows.dryHeatsRow.laid) (((OpenSpec.ofChange Rows.dryHeatsSpec).at F).post enc Tryz.prog Tryz.f3 false true false false):=by
 obtain ⟨places,hx⟩:=jwG os enc
 refine returnsInHanded_of_row (C:=Tryz.checked) (s:=OpenSpec.ofChange Rows.dryHeatsSpec) own started (by kernel_rfl) Tryz.func3
  (witness_row_at (enc:=enc) (C:=Tryz.checked) false (World.laidAll Tryz.prog os Rows.dryHeatsRow.laid) #[.slice none 0 0, .agg #[.int .i64 0, .string ⟨#[]⟩, .string ⟨#[]⟩]] (World.laidAll_os _ _ _) (by kernel_rfl) (by kernel_rfl) (by kernel_rfl)
    (OpenSpec.preRow_of_cond 8 hx (by kernel_rfl) (fun k hk=>by cases hk) (by kernel_rfl) (by rw [MakeChecks.laidMetH_plain _ _ _ (by kernel_rfl)];exact jx3 os))) ?_
 intro W base args ds gs before hval hW _ _ _ hL hS _;exact jwx H enc W base args ds gs before hval hW hL hS
theorem jx4:(Rows.dryHeatsRow.inPlace==Tryz.pinned.checked.prog.inPlace 3)=true:=by kernel_rfl
theorem jx6:(Rows.dryHeatsRow.unfollowed==Tryz.pinned.checked.prog.unfollowed 3)=true:=by kernel_rfl
theorem jx7:(Rows.dryHeatsRow.recurses==Tryz.pinned.checked.prog.recurses 3)=true:=by kernel_rfl
theorem jx5:(Rows.dryHeatsRow.named==Tryz.pinned.checked.prog.varsNamed 3)=true:=by kernel_rfl
theorem jwB:joinedFacts Tryz.pinned.checked.prog 3 Tryz.f3 (OpenSpec.ofChange Rows.dryHeatsSpec).bare Rows.dryHeatsRow=true:=by
 unfold joinedFacts;rw [jx4,jx6,jx7,jx5]
 kernel_rfl
theorem jwK:Rows.DryHeatsSaid:=
 OpenClaim.holds_of_cond 3 Tryz.f3 rfl rfl rfl rfl rfl rfl rfl ⟨rfl,rfl,rfl,rfl,rfl⟩ rfl rfl rfl rfl rfl (by kernel_rfl) Tryz.func3 jwB
  (of_decide_eq_true (by kernel_rfl)) (by unfold Func.isWrapper;first|(rw [if_pos (by decide+kernel)];kernel_rfl)|(rw [if_neg (by decide+kernel)];exact ⟨rfl,rfl⟩))
  (fun os started H enc _ F=>by rw [OpenClaim.pre_eq_preRow];exact jwA os started H enc F)
theorem jwC (f : FuncId) (fn : Func) (hf : Tryz.pinned.checked.prog.funcNamed "bushel/bushellaw06.DryHeats" = some f) (hfn : Tryz.pinned.checked.prog.funcs[f]? = some fn) :
  true=Tryz.pinned.checked.prog.looks []∧∀(j:Nat) t,fn.params[j]? =some t→Tryz.pinned.checked.prog.wantsStandIn t=false:=by
 obtain rfl : f = 3 := Option.some.inj ((show Tryz.prog.funcNamed "bushel/bushellaw06.DryHeats" = some 3 by kernel_rfl).symm.trans hf) |>.symm
 obtain rfl:fn=Tryz.f3:=(Option.some.inj (Tryz.func3.symm.trans hfn)).symm;refine ⟨by kernel_rfl,fun j t ht=> ?_⟩;rw [Tryz.params3] at ht;have hm:t∈ [22,25]:=by simpa using Array.mem_of_getElem? ht
 have hall:([22,25].all fun u=> !Tryz.prog.wantsStandIn u)=true:=by kernel_rfl
 exact (show Tryz.prog.wantsStandIn t=false by simpa using List.all_eq_true.1 hall t hm)
theorem heats_card:Rows.DryHeatsCardSaid:=
 Claim7.holds_tied_plain_at .later [] _ _ _ _ jwK (fun _ h=>by cases h) (by kernel_rfl) (fun _ h=>by cases h) dryHeats_row_tie rfl ⟨rfl,rfl⟩ (by kernel_rfl) rfl jwC (by kernel_rfl)
#print axioms heats_card
end Go.Proofs.YtlcbfkiknejdnaaGreatDoor
