/- Parts. -/
import Derived.Test.YtpkcjfpgemdfdaaGreatDoorBvG
set_option linter.all false
set_option maxRecDepth 100000
set_option maxHeartbeats 8000000
namespace Go.Proofs.YtpkcjfpgemdfdaaGreatDoor
open Go Go.RowKit Go.Proofs.Tryz

def cvC (l:List UInt8×List UInt8):Int:=jar chk [l.1,l.2]
noncomputable def cvO (ls:List (List UInt8×List UInt8)) (i:Nat):Int:=if 0 < i∧¬numQ (ls.getD (i - 1) ([],[])).1 < numQ (ls.getD i ([],[])).1 then 11 else 0
noncomputable def cvI (ls:List (List UInt8×List UInt8)) (i:Nat):Int:=if cvC (ls.getD i ([],[]))=0 then cvO ls i else cvC (ls.getD i ([],[]))
noncomputable def cvE (ls:List (List UInt8×List UInt8)) (n:Nat):Int:=if n=0 then 2 else if 64 < n then 5 else jar (cvI ls) (List.range n)
theorem jze {l:List UInt8×List UInt8} (h:cvC l=0):IsNum l.1 (numQ l.1)∧IsNum l.2 (numQ l.2):=by
 unfold cvC at h;have h1:=jdI h l.1 (by simp);have h2:=jdI h l.2 (by simp);exact ⟨jjb h1,jjb h2⟩
theorem jyQ {ls:List (List UInt8×List UInt8)} {i:Nat} (h:cvI ls i=0):(IsNum (ls.getD i ([],[])).1 (numQ (ls.getD i ([],[])).1)∧IsNum (ls.getD i ([],[])).2 (numQ (ls.getD i ([],[])).2))∧(0 < i→numQ (ls.getD (i - 1) ([],[])).1 < numQ (ls.getD i ([],[])).1):=by
 unfold cvI at h;by_cases h0:cvC (ls.getD i ([],[]))=0
 ·rw [if_pos h0] at h;refine ⟨jze h0,fun hi=> ?_⟩;unfold cvO at h;by_cases q:numQ (ls.getD (i - 1) ([],[])).1 < numQ (ls.getD i ([],[])).1
  ·exact q
  ·rw [if_pos ⟨hi,q⟩] at h;cases h
 ·rw [if_neg h0] at h;exact absurd h h0
section
variable {w:World} {A:Option Addr} {n c:Nat} {ls:List (List UInt8×List UInt8)}
theorem jzy {i:Nat} {p q:Rat×Rat} (hold:Nat→Nat→Bool) (h0:hold 0 0=true) (h1:hold 0 1=decide (p.1 < q.1)) (h:0 < i):jar (jzQ hold (fun _=>11) 1) (List.range 2)=if p.1 < q.1 then 0 else 11:=by
 show jar (jzQ hold (fun _=>11) 1) [0,1]=_
 have e0:jzQ hold (fun _=>11) 1 0=0:=by show jar _ [0]=0;simp [jar,h0]
 have e1:jzQ hold (fun _=>11) 1 1=if p.1 < q.1 then 0 else 11:=by
  show jar _ [0]=_
  by_cases z:p.1 < q.1
  ·simp [jar,h1,z]
  ·simp [jar,h1,z]
 rw [jf3 e0,jar,e1];split <;> rename_i z
 ·rw [if_pos rfl];rfl
 ·rw [if_neg (by decide)]
theorem jzI {P:Rat×Rat} {cp bc d:Nat} (h:Ptv w A 1 [P]) (hbc:bc < w.heap.size) (k0:w.cell? ⟨bc,0,none⟩=some (.func (.func 95) #[] #[])) (k1:w.cell? ⟨bc,1,none⟩=some (.int .i64 11)):
  Calls prog 61 #[.slice A 1 cp, .slice (some ⟨bc,0,none⟩) 1 d] w fun e w'=>e= .returned (.int .i64 0)∧Below w.heap.size w w':=by
 obtain ⟨b,o,rfl,hbl,hc⟩:=h.at_ (by omega);obtain ⟨q0,g0,r0⟩:=hc 0 (by omega);refine jzh (pt:=fun _=>q0) (fs:=fun _=>95) (er:=fun _=>11) (hold:=fun _ _=>true) (by omega) (by omega) hbl hbc (fun i hi=> ?_) (fun j hj=> ?_) (fun j hj _ W hW=> ?_) (fun j hj i hi W hW=>by omega) (fun _ _=> .inl rfl) (fun _ _=>by decide) rfl
 ·obtain rfl:i=0:=by omega
  exact g0
 ·obtain rfl:j=0:=by omega
  exact ⟨k0,k1⟩
 ·exact jyV
theorem jzi {P Q:Rat×Rat} {cp bc d:Nat} {r:Int} (h:Ptv w A 2 [P,Q]) (zp:Sz 600 P.1∧Sz 600 P.2) (zq:Sz 600 Q.1∧Sz 600 Q.2) (hbc:bc < w.heap.size) (k0:w.cell? ⟨bc,0,none⟩=some (.func (.func 95) #[] #[])) (k1:w.cell? ⟨bc,1,none⟩=some (.int .i64 11)) (hr:(if P.1 < Q.1 then (0:Int) else 11)=r):
  Calls prog 61 #[.slice A 2 cp, .slice (some ⟨bc,0,none⟩) 1 d] w fun e w'=>e= .returned (.int .i64 r)∧Below w.heap.size w w':=by
 obtain ⟨b,o,rfl,hbl,hc⟩:=h.at_ (by omega);obtain ⟨q0,g0,r0⟩:=hc 0 (by omega);obtain ⟨q1,g1,r1⟩:=hc 1 (by omega);refine jzh (pt:=fun j=>if j=0 then q0 else q1) (fs:=fun _=>95) (er:=fun _=>11) (hold:=fun _ i=>if i=0 then true else decide (P.1 < Q.1)) (by omega) (by omega) hbl hbc (fun i hi=> ?_) (fun j hj=> ?_) (fun j hj _ W hW=> ?_) (fun j hj i hi W hW=> ?_) (fun _ _=> .inl rfl) (fun _ _=>by decide) ?_
 ·have:i=0∨i=1:=by omega
  rcases this with rfl|rfl
  ·exact g0
  ·exact g1
 ·obtain rfl:j=0:=by omega
  exact ⟨k0,k1⟩
 ·exact jyV
 ·obtain rfl:i=0:=by omega
  have hd:decide (Rq.cmpQ P.1 Q.1 < 0)=decide (P.1 < Q.1):=by rw [decide_eq_decide];exact Rq.cmp_neg
  exact jz9 (q:=q0) (x0:=P.1) (y0:=P.2) (fun k u hu=>ja9 hW (g0 k u hu)) (r0.below hW) (RepF.below r1.1 hW) (RepF.below r1.2 hW) ⟨zq.1,zp.1⟩ ⟨zq.2,zp.2⟩ hd
 ·rw [jzy (p:=P) (q:=Q) _ rfl rfl (i:=1) (by omega)];exact hr
set_option maxHeartbeats 16000000 in
theorem jyK {R:Int} (hE:Env w) (h:Pv w A n ls) (hn:n≤100000) (hcp:n≤c) (hl:∀l∈ls,l.1.length < 4294967281∧l.2.length < 4294967281) (hR:cvE ls n=R):
  Calls prog 36 #[.slice A n c] w fun e w'=>e= .returned (.int .i64 R)∧Below w.heap.size w w':=by
 have HE:=qh hE;have H:=qh h;have HL:=qh hl;have HCP:=qh hcp;clear hcp;unfold cvE at hR;by_cases h0:n=0
 ·rw [if_pos h0] at hR;subst hR;have q1:decide ((n:Int)=0)=true:=by simpa using h0
  have q2:((n:Int)==0)=true:=by rw [beq_iff_eq];omega
  have q3:decide ((64:Int) < (n:Int))=false:=by rw [decide_eq_false_iff_not];omega
  clear hE h hn hl h0;go_enter func36,ntmps36;go_wp2_with (first|(go_at_call 64;(with_reducible show Calls _ _ #[.bool true, .int .i64 2] _ _);(with_reducible refine mo0 (jap (b:=true) (k:=2) (r:=2) rfl) fun w1 hb1 hc1 hf1 _=> ?_))|(go_at_call 64;(with_reducible refine mo0 (jap (b:=false) (k:=5) (r:=0) rfl) fun w2 hb2 hc2 hf2 _=> ?_))|(go_at_call 60;(with_reducible refine mo0 (jbl (r:=2) iv2 (by omega) rfl) fun w3 hb3 hc3 hf3 _=> ?_)))
  go_ret;exact ⟨rfl,bi⟩
 ·rw [if_neg h0] at hR;have q1:((n:Int)==0)=false:=by rw [beq_eq_false_iff_ne];omega
  by_cases h1:64 < n
  ·rw [if_pos h1] at hR;subst hR;have q3:decide ((64:Int) < (n:Int))=true:=by rw [decide_eq_true_iff];omega
   clear hE h hn hl h0 h1;go_enter func36,ntmps36;go_wp2_with (first|(go_at_call 64;(with_reducible refine mo0 (jap (b:=false) (k:=2) (r:=0) rfl) fun w1 hb1 hc1 hf1 _=> ?_))|(go_at_call 64;(with_reducible refine mo0 (jap (b:=true) (k:=5) (r:=5) rfl) fun w2 hb2 hc2 hf2 _=> ?_))|(go_at_call 60;(with_reducible refine mo0 (jbl (r:=5) iv2 (by omega) rfl) fun w3 hb3 hc3 hf3 _=> ?_)))
   go_ret;exact ⟨rfl,bi⟩
  ·rw [if_neg h1] at hR;have q3:decide ((64:Int) < (n:Int))=false:=by rw [decide_eq_false_iff_not];omega
   have HR:=qh hR;have HN:=qh (show n≤64 by omega);clear hE h hn hl h0 h1 hR;go_enter func36,ntmps36;go_wp2_with (first|(go_at_call 64;(with_reducible refine mo0 (jap (b:=false) (k:=2) (r:=0) rfl) fun w1 hb1 hc1 hf1 _=> ?_))|(go_at_call 64;(with_reducible refine mo0 (jap (b:=false) (k:=5) (r:=0) rfl) fun w2 hb2 hc2 hf2 _=> ?_))|(go_at_call 60;(with_reducible refine mo0 (jbl (r:=0) iv2 (by omega) rfl) fun w3 hb3 hc3 hf3 _=> ?_)))
   have bU:Below w.heap.size w w3:=bi;clear hb1 hb2 hb3 hc1 hc2 hc3 hf1 hf2 hf3 q1 q3
   go_loopw [23] (fun u wr=>∃(i:Nat),u= .int .i64 (i:Int)∧Below w.heap.size w wr∧i≤n∧(∀j,j < i→cvI ls j=0)∧jar (cvI ls) ((List.range n).drop i)=R) (fun u _=>n - (intOf u).toNat)
   case atStart=>exact ⟨0,rfl,bU,by omega,fun j hj=>by omega,HR.o⟩
   case round=>
    obtain ⟨i,rfl,hb,hin,hz,hc⟩:=hrel;have _:=bm hb;have hnn:=HN.o;by_cases hi:i < n
    ·have q0:decide ((i:Int) < (n:Int))=true:=by simp;exact hi
     have q9:decide (i < n)=true:=by simpa using hi
     obtain ⟨b,o,rfl,hbl,hcell⟩:=(H.o.below hb).at_ (by omega);obtain ⟨y0,y1⟩:=hcell i hi;have hil:i < ls.length:=by rw [H.o.len];exact hi
     have hmem:ls.getD i ([],[])∈ls:=by rw [List.getD_eq_getElem?_getD,List.getElem?_eq_getElem hil];exact List.getElem_mem hil
     obtain ⟨l0,l1⟩:=HL.o _ hmem;rw [jfU hi] at hc;obtain ⟨k0,hk0⟩:∃k,cvC (ls.getD i ([],[]))=k:=⟨_,rfl⟩;have hCI:cvI ls i=if k0=0 then cvO ls i else k0:=by unfold cvI;rw [hk0]
     obtain ⟨⟨x0,x1⟩,hx⟩:∃x,ls.getD i ([],[])=x:=⟨_,rfl⟩;rw [hx] at y0 y1 l0 l1 hk0;dsimp only at y0 y1 l0 l1;have hER:=HE.o.below hb;have HER:=qh hER
     have HCK:Hd (Calls prog 37 #[.slice (some ⟨wr.heap.size+1,0,none⟩) 2 2] ((wr.alloc (.cells #[bs x0,bs x1] 38)).alloc (.cells #[bs x0,bs x1] 23)) fun e w'=>e= .returned (.int .i64 k0)∧Below ((wr.alloc (.cells #[bs x0,bs x1] 38)).alloc (.cells #[bs x0,bs x1] 23)).heap.size ((wr.alloc (.cells #[bs x0,bs x1] 38)).alloc (.cells #[bs x0,bs x1] 23)) w'):=qh (by
      refine jmp (ls:=[x0,x1]) (hER.below (bA (bA bR))) ⟨rfl,fun _=>⟨wr.heap.size+1,0,rfl,by simp,fun j hj=> ?_⟩⟩ (by omega) (fun l hm=> ?_) hk0
      ·match j,hj with
       | 0,_=>simp
       | 1,_=>simp
      ·rcases List.mem_cons.1 hm with rfl|hm
       ·exact l0
       ·rw [List.mem_singleton.1 hm];exact l1)
     have HI:=qh (ai hi (ai hbl hz));have HX:=qh hx;have HBB:=qh hb;by_cases e0:k0=0
     ·subst e0;rw [if_pos rfl] at hCI;obtain ⟨N0,N1⟩:=jze hk0;dsimp only at N0 N1;have HCI:=qh (ai hCI hc);have HNN:=qh (ai N0 N1);clear hCI hc hk0 l0 l1 hmem hil hx hz N0 N1 hER hcell;go_upto_region 10 with (go_at_call 37;(with_reducible refine mo0 (HCK.o) fun w1 hb1 hc1 hf1 _=> ?_))
      have bW:Below wr.heap.size wr w1:=bi;have bWw:=ja0 hb bW;have HEW:=qh (HE.o.below bWw);have HPW:=qh (H.o.below bWw);have HBW:=qh bWw;obtain ⟨hi,hbl,hz⟩:=HI.o;obtain ⟨hCI,hc⟩:=HCI.o;obtain ⟨N0,N1⟩:=HNN.o;have hx:=HX.o;have hbW:b < w1.heap.size:=Nat.lt_of_lt_of_le hbl bW.size;clear hb1 hc1 hf1 HCK y0 y1 bW bWw hb;by_cases hi0:0 < i
      ·obtain ⟨⟨M0,M1⟩,_⟩:=jyQ (hz (i - 1) (by omega));obtain ⟨⟨p0,p1⟩,hp⟩:∃x,ls.getD (i - 1) ([],[])=x:=⟨_,rfl⟩;rw [hp] at M0 M1;dsimp only at M0 M1
       have hPV:Pv w1 (some ⟨b,o+(i - 1)*2,none⟩) 2 [(p0,p1),(x0,x1)]:=⟨rfl,fun _=>⟨b,o+(i - 1)*2,rfl,hbW,fun j hj=>by
        obtain ⟨b',o',e,_,hcell⟩:=HPW.o.at_ (by omega);cases e
        have:j=0∨j=1:=by omega
        rcases this with rfl|rfl
        ·have:=hcell (i - 1) (by omega);rw [hp] at this;exact this
        ·have:=hcell i hi;rw [hx] at this;rw [show o+(i - 1)*2+1*2=o+i*2 by omega]
         exact this⟩⟩
       obtain ⟨p,hpi⟩:∃p,i - 1=p:=⟨_,rfl⟩;obtain ⟨v,hvi⟩:∃p,i+1=p:=⟨_,rfl⟩;have hcp:=HCP.o;have m1:IntKind.i64.wrap ((i:Int) - 1)=(p:Int):=by simp [IntKind.wrap,IntKind.bits,IntKind.signed];omega
       have m3:IntKind.i64.wrap ((i:Int)+1)=(v:Int):=by simp [IntKind.wrap,IntKind.bits,IntKind.signed];omega
       have b1:p≤v:=by omega
       have b2:v≤c:=by omega
       have b3:¬c=p:=by omega
       have b4:v - p=2:=by omega
       rw [hpi] at hPV;have HZ:=qh (ai M0.sz (ai M1.sz (ai N0.sz N1.sz)))
       have hOE:cvO ls i=if numQ p0 < numQ x0 then 0 else 11:=by
        unfold cvO;rw [hp,hx];by_cases g:numQ p0 < numQ x0
        ·rw [if_neg (fun h=>h.2 g),if_pos g]
        ·rw [if_pos ⟨hi0,g⟩,if_neg g]
       have HCV:=qh (fun c=>jyN (c:=c) HEW.o hPV (by omega) (fun j hj=>by
        have:j=0∨j=1:=by omega
        rcases this with rfl|rfl
        ·exact ⟨M0,M1⟩
        ·exact ⟨N0,N1⟩))
       by_cases g:numQ p0 < numQ x0
       ·have HRR:=qh (show (if numQ p0 < numQ x0 then (0:Int) else 11)=0 from if_pos g);rw [if_pos g] at hOE;rw [hOE] at hCI;rw [hCI,if_pos rfl] at hc;have HCC:=qh (ai hCI hc);clear hPV M0 M1 N0 N1 hz hx hp hcp hOE hCI hc g;go_wp2_with (first|(go_at_call 38;(with_reducible refine (HCV.o _).mono ?_);rintro e4 w4 ⟨v4,vs4,rfl,hv4,hb4⟩;obtain ⟨hc4,hf4,_⟩:=bc0 hb4;obtain ⟨A4,c4,rfl,hp4⟩:=hv4.ptv;have hp4:Ptv w4 A4 2 [(numQ p0,numQ p1),(numQ x0,numQ x1)]:=hp4)|(go_at_call 61;(with_reducible refine mo0 (jzi (hp4.below (bA bR)) ⟨HZ.o.1,HZ.o.2.1⟩ ⟨HZ.o.2.2.1,HZ.o.2.2.2⟩ (by simp) (by simp) (by simp) HRR.o) fun w5 hb5 hc5 hf5 _=> ?_)))
        obtain ⟨hCI,hc⟩:=HCC.o;have hi:=HI.o.1
        exact ⟨⟨i+1,by simp;omega,ja0 HBW.o bi,hi,fun j hj=>by
         by_cases e:j=i
         ·rw [e];exact hCI
         ·exact HI.o.2.2 j (by omega),hc⟩,by simp [intOf];omega⟩
       ·have HRR:=qh (show (if numQ p0 < numQ x0 then (0:Int) else 11)=11 from if_neg g);rw [if_neg g] at hOE;rw [hOE] at hCI;rw [hCI,if_neg (by decide)] at hc;subst hc;clear hPV M0 M1 N0 N1 hz hx hp hcp hOE hCI g HR HCI;go_wp2_with (first|(go_at_call 38;(with_reducible refine (HCV.o _).mono ?_);rintro e4 w4 ⟨v4,vs4,rfl,hv4,hb4⟩;obtain ⟨hc4,hf4,_⟩:=bc0 hb4;obtain ⟨A4,c4,rfl,hp4⟩:=hv4.ptv;have hp4:Ptv w4 A4 2 [(numQ p0,numQ p1),(numQ x0,numQ x1)]:=hp4)|(go_at_call 61;(with_reducible refine mo0 (jzi (hp4.below (bA bR)) ⟨HZ.o.1,HZ.o.2.1⟩ ⟨HZ.o.2.2.1,HZ.o.2.2.2⟩ (by simp) (by simp) (by simp) HRR.o) fun w5 hb5 hc5 hf5 _=> ?_)))
        go_ret;exact ⟨rfl,ja0 HBW.o bi⟩
      ·obtain rfl:i=0:=by omega
       have hOE:cvO ls 0=0:=by unfold cvO;rw [if_neg (fun h=>hi0 h.1)]
       rw [hOE] at hCI;rw [hCI,if_pos rfl] at hc
       have hPV:Pv w1 (some ⟨b,o,none⟩) 1 [(x0,x1)]:=⟨rfl,fun _=>⟨b,o,rfl,hbW,fun j hj=>by
        obtain ⟨b',o',e,_,hcell⟩:=HPW.o.at_ (by omega);cases e
        obtain rfl:j=0:=by omega
        have:=hcell 0 (by omega);rw [hx] at this
        exact this⟩⟩
       have HCV:=qh (fun c=>jyN (c:=c) HEW.o hPV (by omega) (fun j hj=>by
        obtain rfl:j=0:=by omega
        exact ⟨N0,N1⟩))
       have HCC:=qh (ai hCI hc);have hcp:=HCP.o;have m1:IntKind.i64.wrap ((0:Int) - 1)= -1:=by decide
       have m2:max (0:Int) (-1)=0:=by decide
       have b2:1≤c:=by omega
       have b3:¬c=0:=by omega
       clear hPV N0 N1 hz hx hcp hOE hCI hc hi0;go_wp2_with (first|(go_at_call 38;(with_reducible refine (HCV.o _).mono ?_);rintro e4 w4 ⟨v4,vs4,rfl,hv4,hb4⟩;obtain ⟨hc4,hf4,_⟩:=bc0 hb4;obtain ⟨A4,c4,rfl,hp4⟩:=hv4.ptv;have hp4:Ptv w4 A4 1 [(numQ x0,numQ x1)]:=hp4)|(go_at_call 61;(with_reducible refine mo0 (jzI (hp4.below (bA bR)) (by simp) (by simp) (by simp)) fun w5 hb5 hc5 hf5 _=> ?_)))
       obtain ⟨hCI,hc⟩:=HCC.o
       exact ⟨⟨1,by simp,ja0 HBW.o bi,by have:=HI.o.1;omega,fun j hj=>by
        obtain rfl:j=0:=by omega
        exact hCI,hc⟩,by have:=HI.o.1;simp [intOf];omega⟩
     ·rw [if_neg e0] at hCI;rw [hCI,if_neg e0] at hc;subst hc;have q1:(k0 != 0)=true:=by rw [bne_iff_ne];exact e0
      clear HR e0 hCI hk0 l0 l1 hmem hil hcell hx hz hER;go_wp2_with (go_at_call 37;(with_reducible refine mo0 (HCK.o) fun w1 hb1 hc1 hf1 _=> ?_))
      go_ret;exact ⟨rfl,ja0 hb bi⟩
    ·have q0:decide (i < n)=false:=by simp;omega
     rw [List.drop_eq_nil_of_le (by rw [List.length_range];omega)] at hc;have hR:R=0:=by rw [←hc];rfl
     subst hR;clear hc hi HR hz;go_wp2;go_ret;exact ⟨rfl,hb⟩
end

theorem jAe (x y:List UInt8):cvC (x,y)=if chk x=0 then chk y else chk x:=by
 show jar chk [x,y]=_
 by_cases h:chk x=0
 ·rw [jf3 h,if_pos h];by_cases h2:chk y=0
  ·rw [jf3 h2,h2];rfl
  ·rw [jed h2]
 ·rw [jed h,if_neg h]
section
variable {w:World} {A:Option Addr} {n c:Nat} {ls:List (List UInt8×List UInt8)}
theorem jzw {R:Int} (h:Pv w A n ls) (hn:n≤100000) (hl:∀l∈ls,l.1.length≤30∧l.2.length≤30) (hR:cvE ls n=R):
  Calls prog 19 #[.slice A n c] w fun e w'=>e= .returned (.int .i64 R)∧Below w.heap.size w w':=by
 have H:=qh h;have HL:=qh hl;have HN:=qh hn;unfold cvE at hR;by_cases h0:n=0
 ·subst h0;rw [if_pos rfl] at hR;subst hR;clear h hn hl;go_enter func19,ntmps19;go_wp2;go_ret;exact ⟨rfl,bi⟩
 ·rw [if_neg h0] at hR;have q1:((n:Int)==0)=false:=by rw [beq_eq_false_iff_ne];omega
  by_cases h1:64 < n
  ·rw [if_pos h1] at hR;subst hR;have q2:decide ((64:Int) < (n:Int))=true:=by rw [decide_eq_true_iff];omega
   clear h hn hl h0 h1;go_enter func19,ntmps19;go_wp2;go_ret;exact ⟨rfl,bi⟩
  ·rw [if_neg h1] at hR;have q2:decide ((64:Int) < (n:Int))=false:=by rw [decide_eq_false_iff_not];omega
   have HR:=qh hR;clear h hn hl h0 h1 hR;go_enter func19,ntmps19;go_wp2;clear q1 q2
   go_loopw [3] (fun u wr=>∃(i:Nat),u= .int .i64 (i:Int)∧Below w.heap.size w wr∧i≤n∧(∀j,j < i→cvI ls j=0)∧jar (cvI ls) ((List.range n).drop i)=R) (fun u _=>n - (intOf u).toNat)
   case atStart=>exact ⟨0,rfl,bi,by omega,fun j hj=>by omega,HR.o⟩
   case round=>
    obtain ⟨i,rfl,hb,hin,hz,hc⟩:=hrel;have _:=bm hb;by_cases hi:i < n
    ·have q0:decide ((i:Int) < (n:Int))=true:=by simp;exact hi
     have q9:decide (i < n)=true:=by simpa using hi
     obtain ⟨b,o,rfl,hbl,hcell⟩:=(H.o.below hb).at_ (by omega);obtain ⟨y0,y1⟩:=hcell i hi;have hil:i < ls.length:=by rw [H.o.len];exact hi
     have hmem:∀j,j < n→ls.getD j ([],[])∈ls:=fun j hj=>by rw [List.getD_eq_getElem?_getD,List.getElem?_eq_getElem (by rw [H.o.len];exact hj)];exact List.getElem_mem _
     obtain ⟨l0,l1⟩:=HL.o _ (hmem i hi);have lp:=HL.o _ (hmem (i - 1) (by omega));rw [jfU hi] at hc;have hCI:cvI ls i=if cvC (ls.getD i ([],[]))=0 then cvO ls i else cvC (ls.getD i ([],[])):=rfl
     have hOE:cvO ls i=if 0 < i∧¬numQ (ls.getD (i - 1) ([],[])).1 < numQ (ls.getD i ([],[])).1 then 11 else 0:=rfl
     have hPrev:0 < i→wr.cell? ⟨b,o+(i - 1)*2,none⟩=some (bs (ls.getD (i - 1) ([],[])).1):=fun h0=>(hcell (i - 1) (by omega)).1
     have hPN:0 < i→IsNum (ls.getD (i - 1) ([],[])).1 (numQ (ls.getD (i - 1) ([],[])).1):=fun h0=>(jyQ (hz (i - 1) (by omega))).1.1
     obtain ⟨p0,hp⟩:∃x,(ls.getD (i - 1) ([],[])).1=x:=⟨_,rfl⟩;obtain ⟨⟨x0,x1⟩,hx⟩:∃x,ls.getD i ([],[])=x:=⟨_,rfl⟩;rw [hx] at y0 y1 l0 l1 hCI hOE;rw [hp] at lp hOE hPrev hPN;dsimp only at y0 y1 l0 l1 hOE;rw [jAe] at hCI;obtain ⟨k0,hk0⟩:∃k,chk x0=k:=⟨_,rfl⟩;obtain ⟨k1,hk1⟩:∃k,chk x1=k:=⟨_,rfl⟩;rw [hk0,hk1] at hCI;have HX0:=qh (fun W=>jpl (w:=W) hk0 (by omega));have HX1:=qh (fun W=>jpl (w:=W) hk1 (by omega));have hnn:=HN.o;have HHB:=qh hb;by_cases e0:k0=0
     ·subst e0;rw [if_pos rfl] at hCI;by_cases e1:k1=0
      ·subst e1;rw [if_pos rfl] at hCI
       have hZ:(cvO ls i=0→∀j,j < i+1→cvI ls j=0):=fun h j hj=>by
        by_cases e:j=i
        ·rw [e,hCI,h]
        ·exact hz j (by omega)
       by_cases hi0:0 < i
       ·have hPrev:=hPrev hi0;have N0:=hPN hi0;have N1:=jjb hk0;have d0:=N0.dzl lp.1 (by omega);have d1:=N1.dzl l0 (by omega);obtain ⟨p,hpp⟩:∃p,numQ p0=p:=⟨_,rfl⟩;obtain ⟨q,hqq⟩:∃p,numQ x0=p:=⟨_,rfl⟩;rw [hpp] at N0 d0 hOE;rw [hqq] at N1 d1 hOE;obtain ⟨j,hj⟩:∃j,Rq.cmpQ p q=j:=⟨_,rfl⟩;have HJ:=qh (fun W=>jko (w:=W) hj d0 d1 (by omega) (by omega) (by omega) (by omega));rw [←N0.eq,←N1.eq] at HJ;have m1:IntKind.i64.wrap ((i:Int) - 1)=((i - 1:Nat):Int):=by simp [IntKind.wrap,IntKind.bits,IntKind.signed];omega
        have m2:wrap64 ((i:Int) - 1)=((i - 1:Nat):Int):=by unfold wrap64;omega
        have t1:decide ((0:Int) < (i:Int))=true:=by rw [decide_eq_true_iff];omega
        have t2:i - 1 < n:=by omega
        obtain ⟨f,hf⟩:∃f,decide ((0:Int)≤j)=f:=⟨_,rfl⟩
        have hf2:f=true↔¬p < q:=by
         rw [←hf,decide_eq_true_iff,←hj];exact ⟨fun h h2=>by have:=Rq.cmp_neg.2 h2;omega,fun h=>Int.not_lt.1 fun h2=>h (Rq.cmp_neg.1 h2)⟩
        have HFF:=qh (ai hf2 (ai hOE (ai hCI (ai hZ hc))));have HI:=qh hi;clear hf2 hOE hCI hZ hc hz hk0 hk1 hPN N0 N1 d0 d1 hpp hqq hj l0 l1 lp hmem hil hx hp hcell hb;go_upto_region 11 with (first|(go_at_call 18;(with_reducible show Calls _ _ #[bs x0] _ _);(with_reducible refine mo0 (HX0.o _) fun w1 hb1 hc1 hf1 _=> ?_))|(go_at_call 18;(with_reducible refine mo0 (HX1.o _) fun w2 hb2 hc2 hf2 _=> ?_)))
        have bW:Below wr.heap.size wr w2:=bi;have yy:=ja9 bW y0;have yp:=ja9 bW hPrev;have zb:b < w2.heap.size:=World.block_lt_of_cell? w2 _ yy;clear hb1 hb2 hc1 hc2 hf1 hf2 HX0 HX1;refine ja1 (fun w'=>Below w2.heap.size w2 w') [] (by kernel_rfl) ?_;refine tl [(0,[], .int .i64 0),(1,[], .bool true),(2,[], .bool true)] [_,_,_] rfl (by kernel_rfl) pk5 (by intros;simp only [tyq,ppq];go_simp) bq0 ?_;simp only [tlq,ppq];refine tl [(3,[], .int .i64 (i:Int)),(4,[], .bool true),(5,[], .bool true)] [_,_,_] rfl (by kernel_rfl) pk5 (by intros;simp only [tyq,ppq];go_simp) bq0 ?_;simp only [tlq,ppq];refine tl [(6,[], .bool true),(7,[], .slice (some ⟨b,o,none⟩) n c),(8,[], .int .i64 (i:Int))] [_,_,_] rfl (by kernel_rfl) pk5 (by intros;simp only [tyq,ppq];go_simp) bq0 ?_;simp only [tlq,ppq];refine tl [(9,[], .int .i64 ((i - 1:Nat):Int)),(10,[], .pointer (some ⟨b,o+(i - 1)*2,none⟩)),(11,[], .pointer (some ⟨b,o+(i - 1)*2,none⟩))] [_,_,_] rfl (by kernel_rfl) pk5 (by intros;simp only [tyq,ppq];go_simp) bq0 ?_;simp only [tlq,ppq];refine tl [(12,[],bs p0),(13,[], .slice (some ⟨b,o,none⟩) n c),(14,[], .int .i64 (i:Int))] [_,_,_] rfl (by kernel_rfl) pk5 (by intros;simp only [tyq,ppq];go_simp) bq0 ?_;simp only [tlq,ppq];refine tl [(15,[], .pointer (some ⟨b,o+i*2,none⟩)),(16,[], .pointer (some ⟨b,o+i*2,none⟩)),(17,[],bs x0)] [_,_,_] rfl (by kernel_rfl) pk5 (by intros;simp only [tyq,ppq];go_simp) bq0 ?_;simp only [tlq,ppq];refine rd1 18 (by kernel_rfl) rfl (fun K hK=> ?_);go_simp;go_wp2_with (go_at_call 8;(with_reducible refine mo0 (HJ.o _) fun w3 hb3 hc3 hf3 _=> ?_))
        have sS3:=qh (bst bq0 hb3);refine hK.out _ _ (fun _=>sS3.o) ?_;clear hK K;refine rd1 19 (by kernel_rfl) rfl (fun K hK=> ?_);go_simp;refine hK.out _ _ (fun _=>bi) ?_;clear hK K;refine rd1 20 (by kernel_rfl) rfl (fun K hK=> ?_);go_simp;refine hK.out _ _ (fun _=>bi) ?_;clear hK K;refine ja2 (by kernel_rfl) ?_ _;cases f with
        | true=>
          obtain ⟨hf2,hOE,hCI,hZ,hc⟩:=HFF.o;rw [if_pos ⟨hi0,hf2.1 rfl⟩] at hOE;rw [hCI,hOE,if_neg (by decide)] at hc;subst hc;clear hf2 hOE hCI hZ HR HFF;go_wp2;go_ret;exact ⟨rfl,ja0 HHB.o (ja0 bW bi)⟩
        | false=>
          go_wp2;obtain ⟨hf2,hOE,hCI,hZ,hc⟩:=HFF.o;rw [if_neg (fun h=>by have:=hf2.2 h.2;cases this)] at hOE;rw [hCI,hOE,if_pos rfl] at hc;exact ⟨⟨i+1,by simp,ja0 HHB.o (ja0 bW bi),HI.o,hZ hOE,hc⟩,by have:=HI.o;simp [intOf];omega⟩
       ·rw [if_neg (fun h=>hi0 h.1)] at hOE;have hZ:=hZ hOE;rw [hCI,hOE,if_pos rfl] at hc;have t1:decide ((0:Int) < (i:Int))=false:=by rw [decide_eq_false_iff_not];omega
        have HC:=qh (ai hZ hc);have HI:=qh hi;clear hPrev hPN hOE hCI hZ hc hz hk0 hk1 l0 l1 lp hmem hil hx hp hcell hb;go_upto_region 11 with (first|(go_at_call 18;(with_reducible show Calls _ _ #[bs x0] _ _);(with_reducible refine mo0 (HX0.o _) fun w1 hb1 hc1 hf1 _=> ?_))|(go_at_call 18;(with_reducible refine mo0 (HX1.o _) fun w2 hb2 hc2 hf2 _=> ?_)))
        go_quiet (fail)
        go_wp2;exact ⟨⟨i+1,by simp,ja0 HHB.o bi,HI.o,HC.o.1,HC.o.2⟩,by have:=HI.o;simp [intOf];omega⟩
      ·rw [if_neg e1] at hCI;rw [hCI,if_neg e1] at hc;subst hc;have q1:(k1==0)=false:=by rw [beq_eq_false_iff_ne];exact e1
       have q2:(k1 != 0)=true:=by rw [bne_iff_ne];exact e1
       clear HR hPrev hPN hOE hCI hz hk0 hk1 l0 l1 lp hmem hil hx hp hcell hb e1;go_upto_region 11 with (first|(go_at_call 18;(with_reducible show Calls _ _ #[bs x0] _ _);(with_reducible refine mo0 (HX0.o _) fun w1 hb1 hc1 hf1 _=> ?_))|(go_at_call 18;(with_reducible refine mo0 (HX1.o _) fun w2 hb2 hc2 hf2 _=> ?_)))
       go_quiet (fail)
       go_wp2;go_ret;exact ⟨rfl,ja0 HHB.o bi⟩
     ·rw [if_neg e0,if_neg e0] at hCI;rw [hCI,if_neg e0] at hc;subst hc;have q1:(k0==0)=false:=by rw [beq_eq_false_iff_ne];exact e0
      have q2:(k0 != 0)=true:=by rw [bne_iff_ne];exact e0
      clear HR hPrev hPN hOE hCI hz hk0 hk1 l0 l1 lp hmem hil hx hp hcell hb e0;go_upto_region 11 with (go_at_call 18;(with_reducible refine mo0 (HX0.o _) fun w1 hb1 hc1 hf1 _=> ?_))
      go_quiet (fail)
      go_wp2;go_ret;exact ⟨rfl,ja0 HHB.o bi⟩
    ·have q0:decide (i < n)=false:=by simp;omega
     rw [List.drop_eq_nil_of_le (by rw [List.length_range];omega)] at hc;have hR:R=0:=by rw [←hc];rfl
     subst hR;clear hc hi HR;go_wp2;go_ret;exact ⟨rfl,hb⟩
theorem jzG (h:cvE ls n=0):(0 < n∧n≤64)∧∀i,i < n→cvI ls i=0:=by
 unfold cvE at h;by_cases h1:n=0
 ·rw [if_pos h1] at h;cases h
 rw [if_neg h1] at h;by_cases h2:64 < n
 ·rw [if_pos h2] at h;cases h
 rw [if_neg h2] at h;exact ⟨by omega,fun i hi=>jdI h i (List.mem_range.2 hi)⟩
theorem jzV (h:cvE ls n=0):∀i,i < n→IsNum (ls.getD i ([],[])).1 (numQ (ls.getD i ([],[])).1)∧IsNum (ls.getD i ([],[])).2 (numQ (ls.getD i ([],[])).2):=fun i hi=>(jyQ ((jzG h).2 i hi)).1
end
end Go.Proofs.YtpkcjfpgemdfdaaGreatDoor
