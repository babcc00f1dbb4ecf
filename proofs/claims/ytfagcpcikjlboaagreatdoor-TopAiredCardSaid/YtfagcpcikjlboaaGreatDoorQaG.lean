/- Parts. -/
import Derived.Test.YtfagcpcikjlboaaGreatDoorMbG
import Derived.Test.YtfagcpcikjlboaaGreatDoorHaG
set_option linter.all false
set_option maxRecDepth 100000
set_option maxHeartbeats 8000000
namespace Go.Proofs.YtfagcpcikjlboaaGreatDoor
open Go Go.RowKit Go.Proofs.Tryz

section
variable {w:World} {A:Option Addr} {n c:Nat} {ws:List Int} {t:Int}
end

abbrev jbW (w:World) (base:Nat) (v:Value) (n:Nat) (zs:List Int):Prop:=w.ownsRow base 3 1 v n (zs.map (Value.int .i64))
theorem jsZ:(prog.info? 3).map (fun i=>(i.zero,i.size,i.bytes))=some (some (.int .i64 0),1,8):=by kernel_rfl
theorem jbW.at_ {w:World} {base n:Nat} {v:Value} {zs:List Int} (h:jbW w base v n zs) (hl:zs.length=n) (h0:0 < n):∃g c,v= .slice (some ⟨g,0,none⟩) n c∧g < w.heap.size∧∀j,j < n→w.cell? ⟨g,j,none⟩=some (.int .i64 (zs.getD j 0)):=by
 rcases h.2 with ⟨rfl,h1⟩|⟨g,cap,cur,rfl,hb,hg,hnc,hcm,hcs,ht⟩
 ·omega
 ·refine ⟨g,cap,rfl,(Array.getElem?_eq_some_iff.1 hg).1,fun j hj=> ?_⟩;have hc:=World.ownsRow.cells h (g:=g) rfl;have hjl:j < zs.length:=by omega
  have:=hc j (.int .i64 (zs.getD j 0)) (by rw [List.getElem?_map,List.getElem?_eq_getElem hjl,List.getD_eq_getElem?_getD,List.getElem?_eq_getElem hjl];rfl);rw [jdP] at this;exact this
theorem jbW.iv {w:World} {base n:Nat} {v:Value} {zs:List Int} (h:jbW w base v n zs) (hl:zs.length=n) (h0:0 < n) (hz:∀z∈zs,R64 z):∃g c,v= .slice (some ⟨g,0,none⟩) n c∧Iv w (some ⟨g,0,none⟩) n zs:=by
 obtain ⟨g,c,e,h1,h2⟩:=jbW.at_ h hl h0;exact ⟨g,c,e,hl,hz,fun _=>⟨g,0,rfl,h1,fun j hj=>by rw [Nat.zero_add];exact h2 j hj⟩⟩
theorem jbW.ge {w:World} {base n:Nat} {v:Value} {zs:List Int} (h:jbW w base v n zs):∀k,v.ownBlock=some k→base≤k:=by
 intro k hk;rcases h.2 with ⟨rfl,h1⟩|⟨g,cap,cur,rfl,hb,hg,hnc,hcm,hcs,ht⟩
 ·simp [Value.ownBlock] at hk
 ·simp [Value.ownBlock] at hk;omega
theorem jbW.below {w w':World} {base n:Nat} {v:Value} {zs:List Int} (h:jbW w base v n zs) (hb:Below w.heap.size w w'):jbW w' base v n zs:=
 World.ownsRow.kept h (je8 hb none) (by cases hv:v.ownBlock <;> simp)
theorem jsx {w:World} {base n b c:Nat} {v:Value} {zs:List Int} {x:Int} (h:jbW w base v n zs) (hn:n≤100000) (hb:base≤w.heap.size) (h0:w.cell? ⟨b,0,none⟩=some (.int .i64 x)):
  ∃v' w',(Builtin.append_ #[79,79] 79 #[v, .slice (some ⟨b,0,none⟩) 1 c]).run prog w= .ok v' w'∧jbW w' base v' (n+1) (zs++[x])∧w.grownBy w' v.ownBlock:=by
 obtain ⟨i,hi,hz0,hz1,hz2⟩:=info_parts jsZ
 obtain ⟨v',w',hr,k1,k2,_,_⟩:=run_append_own_at (P:=prog) w base 79 79 3 i _ 1 8 underlying79 hi hz0 hz1 hz2 rfl (by decide) v n (zs.map (Value.int .i64)) h ⟨b,0,none⟩ 1 c [.int .i64 x] (by simp)
  (by
    intro j u hu;rw [jdP]
    match j,hu with
    | 0,hu=>simp at hu;subst hu;exact h0
    | j+1,hu=>simp at hu)
  (by intro u hu;simp at hu;subst hu;rfl)
  (by simp only [maxLen];omega) (by omega) hb
 exact ⟨v',w',hr,by rw [jbW,List.map_append];exact k1,k2⟩
theorem jac {ops:Array Oper} {rest:List Oper} {o:Oper} {a:Act} {Q:Exit→Act→World→Prop} {w:World} {base n b c:Nat} {v:Value} {zs:List Int} {x:Int} (hg:o.guard=none) (s y:Operand)
  (ho:o.op= .call { callee:= .builtin .append,args:= #[s,y],argTypes:= #[79,79] }) (ht:o.type=79) (hs:a.eval s=v) (hy:a.eval y= .slice (some ⟨b,0,none⟩) 1 c)
  (h:jbW w base v n zs) (hl:zs.length=n) (hn:n≤100000) (hb:base≤w.heap.size) (h0:w.cell? ⟨b,0,none⟩=some (.int .i64 x))
  (hK:∀g c' w',jbW w' base (.slice (some ⟨g,0,none⟩) (n+1) c') (n+1) (zs++[x])→(∀j,j < n+1→w'.cell? ⟨g,j,none⟩=some (.int .i64 ((zs++[x]).getD j 0)))→w.grownBy w' v.ownBlock→wpList prog ops Q rest (a.put o.dst (.slice (some ⟨g,0,none⟩) (n+1) c')) w'):wpList prog ops Q (o::rest) a w:=by
 obtain ⟨v',w',hr,k1,k2⟩:=jsx h hn hb h0;obtain ⟨g,c',rfl,_,hc⟩:=jbW.at_ k1 (by simp [hl]) (by omega);refine wpList_plain hg fun K' hK'=> ?_
 exact jiI s y ho hs hy (by rw [ht];exact hr) (hK' _ _ (hK g c' w' k1 hc k2))
def wz (us:List Nat):List Int:=us.map fun u=>((u % 1001:Nat):Int)

def B9:Nat:=1000000000
theorem jaq:B9=1000000000:=rfl
theorem jal:0 < B9:=by rw [jaq];omega
structure Dv (w:World) (A:Option Addr) (n:Nat) (ds:List Nat):Prop where
 len:ds.length=n
 dig:Pos.Dig B9 ds
 big:n < 1099511627776
 at_:0 < n→∃b o,A=some ⟨b,o,none⟩∧b < w.heap.size∧∀j,j < n→w.cell? ⟨b,o+j,none⟩=some (.int .i64 ((dg ds j:Nat):Int))
section
variable {w w':World} {A:Option Addr} {n:Nat} {ds:List Nat}
theorem Dv.below (h:Dv w A n ds) (hb:Below w.heap.size w w'):Dv w' A n ds:=
 ⟨h.len,h.dig,h.big,fun hn=>by
   obtain ⟨b,o,e,hl,hc⟩:=h.at_ hn
   exact ⟨b,o,e,Nat.lt_of_lt_of_le hl hb.size,fun j hj=>(hb.cell (p:=⟨b,o+j,none⟩) hl).trans (hc j hj)⟩⟩
theorem Dv.nil (w:World) (A:Option Addr):Dv w A 0 []:=⟨rfl,Pos.Dig.nil,by omega,fun h=>absurd h (by omega)⟩
theorem Dv.take (h:Dv w A n ds) {k:Nat} (hk:k≤n):Dv w A k (ds.take k):=
 ⟨by rw [List.length_take,h.len];omega,h.dig.take k,by have:=h.big;omega,fun h0=>by
   obtain ⟨b,o,e,hl,hc⟩:=h.at_ (by omega);refine ⟨b,o,e,hl,fun j hj=> ?_⟩;rw [show dg (ds.take k) j=dg ds j by simp [dg,List.getD_eq_getElem?_getD,List.getElem?_take,hj]]
   exact hc j (by omega)⟩
theorem jci (h:Pos.Dig B9 ds) (j:Nat):dg ds j < 1000000000:=by
 rcases Nat.lt_or_ge j ds.length with hj|hj
 ·rw [gd hj];exact h.at hj
 ·simp [dg,List.getD_eq_getElem?_getD,hj]
end
theorem jkK (ds:List Nat) (k:Nat) (hk:k+1≤ds.length) (h0:dg ds k=0):Pos.nv B9 (ds.take (k+1))=Pos.nv B9 (ds.take k):=by
 rw [gd (by omega)] at h0;rw [Pos.nv_take_succ (by omega),h0];omega
def jtI (A:Option Addr) (n c:Nat) (ds:List Nat) (w:World) (e:Ending) (w':World):Prop:=
 ∃k,k≤n∧Pos.Trim (ds.take k)∧Pos.nv B9 (ds.take k)=Pos.nv B9 ds∧e= .returned (.slice A k c)∧w=w'
theorem jhx {A:Option Addr} {n c k:Nat} {ds:List Nat} {w:World} {v:Value} (h1:k≤n) (h2:Pos.Trim (ds.take k)) (h3:Pos.nv B9 (ds.take k)=Pos.nv B9 ds) (h4:v= .slice A k c):
  jtI A n c ds w (.returned v) w:=⟨k,h1,h2,h3,by rw [h4],rfl⟩
theorem jjv (A:Option Addr) (n c:Nat) (ds:List Nat) (w:World) (h:Dv w A n ds) (hn:n≤c) (hc:c < 9223372036854775808):
  Calls prog 120 #[.slice A n c] w (jtI A n c ds w):=by
 have HD:=qh h;clear h;go_enter func120,ntmps120;go_wp2
 go_loop [0] (fun v=>∃k:Nat,k≤n∧v= .slice A k c∧Hd (Pos.nv B9 (ds.take k)=Pos.nv B9 ds)) (fun v=>match v with | .slice _ k _=>k | _=>0)
 case atStart=>exact ⟨n,Nat.le_refl _,rfl,by have:=HD.o.len;show _=_;rw [←this,List.take_length]⟩
 case round=>
  obtain ⟨k,hk,rfl,HV⟩:=hrel;cases k with
  | zero=>
    go_wp2;go_ret;exact jhx (Nat.zero_le _) (by rw [List.take_zero];exact Pos.Trim.nil) HV.o rfl
  | succ k=>
    obtain ⟨b,o,rfl,hlt,hcell⟩:=HD.o.at_ (by omega);have hl:=HD.o.len;have hcl:=hcell k (by omega);have HL:=qh hl;clear hcell hl;by_cases h0:dg ds k=0
    ·have hcl':w.cell? ⟨b,o+k,none⟩=some (.int .i64 0):=by rw [hcl,h0];rfl
     have H0:=qh h0;clear hcl h0;go_wp2
     go_round
     case rel=>exact ⟨k,by omega,by go_num,by show _=_;rw [←HV.o,jkK ds k (by have:=HL.o;omega) H0.o]⟩
     case measure=>simp
    ·have hb:(((dg ds k:Nat):Int)==0)=false:=by rw [beq_eq_false_iff_ne];omega
     have H0:=qh h0;clear h0;go_wp2;go_ret;exact jhx hk (jf1 ds k (by have:=HL.o;omega) H0.o) HV.o rfl
theorem jlY {w:World} {A:Option Addr} {n c i:Nat} {ds:List Nat} (h:Dv w A n ds) (hi:i < 1099511627776):Calls prog 134 #[.slice A n c, .int .i64 (i:Int)] w fun e w'=>e= .returned (.int .i64 ((dg ds i:Nat):Int))∧Below w.heap.size w w':=by
 by_cases hin:i < n
 ·obtain ⟨b,o,rfl,hlt,hcell⟩:=h.at_ (by omega);have hcl:=hcell i hin;have q0:decide (i < n)=true:=by simpa using hin
  clear hcell h;go_enter func134,ntmps134;go_wp2;go_ret;exact ⟨rfl,bi⟩
 ·have q0:decide (i < n)=false:=by simpa using hin
  have e:dg ds i=0:=by
   have:=h.len;simp [dg,List.getD_eq_getElem?_getD,List.getElem?_eq_none (show ds.length≤i by omega)]
  rw [e];clear h hin e;go_enter func134,ntmps134;go_wp2;go_ret;exact ⟨rfl,bi⟩

def iz (ds:List Nat):List Int:=ds.map fun d:Nat=>(d:Int)
theorem jaY (ds:List Nat):(iz ds).length=ds.length:=by simp [iz]
theorem jbn (ds:List Nat) (d:Nat):iz ds++[(d:Int)]=iz (ds++[d]):=by simp [iz]
theorem jeq (ds:List Nat) (j:Nat):(iz ds).getD j 0=((dg ds j:Nat):Int):=by
 unfold iz dg;rw [List.getD_eq_getElem?_getD,List.getD_eq_getElem?_getD,List.getElem?_map];cases ds[j]? <;> simp
theorem jbW.dv {w:World} {base n:Nat} {v:Value} {ds:List Nat} (h:jbW w base v n (iz ds)) (hl:ds.length=n) (hd:Pos.Dig B9 ds) (hn:n < 1099511627776):∃A c,v= .slice A n c∧Dv w A n ds∧n≤c∧c < 9223372036854775808:=by
 rcases h.2 with ⟨rfl,h1⟩|⟨g,cap,cur,rfl,hb,hg,hnc,hcm,hcs,ht⟩
 ·obtain rfl:n=0:=by omega
  obtain rfl:ds=[]:=List.length_eq_zero_iff.1 hl;exact ⟨none,0,rfl,Dv.nil w none,Nat.le_refl _,by omega⟩
 ·refine ⟨some ⟨g,0,none⟩,cap,rfl,⟨hl,hd,hn,fun h0=> ?_⟩,hnc,by unfold maxLen at hcm;omega⟩;obtain ⟨g',c',e,h1,h2⟩:=jbW.at_ h (by rw [jaY];exact hl) h0;cases e
  exact ⟨g,0,rfl,h1,fun j hj=>by rw [Nat.zero_add,h2 j hj,jeq]⟩

theorem Dv.far {w:World} {g n:Nat} {ds:List Nat} (h:Dv w (some ⟨g,0,none⟩) n ds) {p:Addr} (hp:g≠p.block) (v:Value):Dv (w.setCell p v) (some ⟨g,0,none⟩) n ds:=
 ⟨h.len,h.dig,h.big,fun h0=>by
   obtain ⟨b,o,e,hl,hc⟩:=h.at_ h0;cases e
   exact ⟨g,0,rfl,by simpa using hl,fun j hj=>by rw [World.cell?_setCell_far _ _ _ _ (by first|exact hp|exact Ne.symm hp|(dsimp only;exact hp)|(dsimp only;exact Ne.symm hp))];exact hc j hj⟩⟩
section
variable {w:World} {A:Option Addr} {n c:Nat} {ds:List Nat}
theorem ji2 {g:Bool} (h:Dv w A n ds) (hn:n≤c) (hc:c < 9223372036854775808):Calls prog 73 #[.bool g, .slice A n c] w fun e w'=>∃k,e= .returned (.agg #[.bool (g && decide (0 < k)), .slice A k c])∧k≤n∧Pos.Trim (ds.take k)∧Pos.nv B9 (ds.take k)=Pos.nv B9 ds∧Below w.heap.size w w':=by
 have H:=qh h;have HN:=qh (ai hn hc);clear h hn hc;cases g
 ·go_enter func73,ntmps73;go_wp2_with ((go_at_call 120;(with_reducible refine (jjv A n c ds _ (H.o.below bi) HN.o.1 HN.o.2).mono ?_);rintro e1 w1 ⟨k,hk,ht,hv,rfl,rfl⟩;have HK:=qh (ai hk (ai ht hv));clear hk ht hv))
  exact bodyPost_ret (v:= .agg #[.bool false, .slice A k c]) (by simp [results,results73,go_sem]) rfl ⟨k,by simp,HK.o.1,HK.o.2.1,HK.o.2.2,bi⟩
 ·go_enter func73,ntmps73;go_wp2_with ((go_at_call 120;(with_reducible refine (jjv A n c ds _ (H.o.below bi) HN.o.1 HN.o.2).mono ?_);rintro e1 w1 ⟨k,hk,ht,hv,rfl,rfl⟩;have HK:=qh (ai hk (ai ht hv));clear hk ht hv))
  exact bodyPost_ret (v:= .agg #[.bool (decide (0 < k)), .slice A k c]) (by simp [results,results73,go_sem]) rfl ⟨k,by simp,HK.o.1,HK.o.2.1,HK.o.2.2,bi⟩
end

theorem jet {l:List UInt8} (h:jcG l) (k:Nat):jcG (l.take k):=fun c hc=>h c (List.mem_of_mem_take hc)
theorem jbE {l:List UInt8} (h:jcG l) (k:Nat):jcG (l.drop k):=fun c hc=>h c (List.mem_of_mem_drop hc)
theorem js2 {l:List UInt8} {k:Nat} (h:k+9=l.length):Dig.val l=Dig.val (l.take k)*B9+Dig.val (l.drop k):=by
 have:=Dig.val_append (l.take k) (l.drop k);rw [List.take_append_drop,List.length_drop,show l.length - k=9 by omega] at this;exact this
theorem jdQ {l:List UInt8} (hd:jcG l) (h:l.length≤9):Dig.val l < B9:=jfj hd h
theorem jj6 {l:List UInt8} {ds:List Nat} {k:Nat} (h:k+9=l.length):Pos.nv B9 (ds++[Dig.val (l.drop k)])+B9^(ds++[Dig.val (l.drop k)]).length*Dig.val (l.take k)=Pos.nv B9 ds+B9^ds.length*Dig.val l:=by
 rw [Pos.nv_snoc,js2 h,List.length_append,List.length_singleton,Nat.pow_succ,Nat.mul_add,Nat.mul_comm (Dig.val (l.take k)) B9,←Nat.mul_assoc];omega
section
variable {w:World} {l:List UInt8}
end

theorem joj {A A':Option Addr} {n n' c c':Nat} {ds es:List Nat} {w:World} (h:Dv w A n ds) (h':Dv w A' n' es) (t:Pos.Trim ds) (t':Pos.Trim es):
  Calls prog 87 #[.slice A n c, .slice A' n' c'] w (jgu (Pos.nv B9 ds) (Pos.nv B9 es) w):=by
 have HD:=qh h;have HE:=qh h';have hn:=h.big;have hn':=h'.big;clear h h';rcases Nat.lt_trichotomy n n' with hlt|heq|hlt
 ·have b1:((n:Int) != (n':Int))=true:=by rw [bne_iff_ne];omega
  have b2:decide (n < n')=true:=by simpa using hlt
  go_enter func87,ntmps87;go_wp2;go_ret;exact jby rfl (jhU (Pos.nv_lt_of_len jal HD.o.dig t' (by have:=HD.o.len;have:=HE.o.len;omega))) bi
 ·subst heq;go_enter func87,ntmps87;go_wp2
  go_loopw [5] (fun i wr=>∃k m:Nat,k≤n∧i= .int .i64 ((k:Int) - 1)∧wr=w.drewN m∧Hd (ds.drop k=es.drop k)) (fun i _=>(intOf i+1).toNat)
  case atStart=>
   refine ⟨n,0,Nat.le_refl _,rfl,rfl, ?_⟩;show _=_
   rw [List.drop_of_length_le (by have:=HD.o.len;omega),List.drop_of_length_le (by have:=HE.o.len;omega)]
  case round=>
   obtain ⟨k,m,hk,rfl,rfl,HV⟩:=hrel;cases k with
   | zero=>
     go_wp2;go_ret;refine jby (z:=0) (by simp) (jo5 ?_) bi;have:=HV.o;simp only [List.drop_zero] at this;rw [this]
   | succ k=>
     obtain ⟨b,o,rfl,hlt,hcell⟩:=HD.o.at_ (by omega);obtain ⟨b',o',rfl,hlt',hcell'⟩:=HE.o.at_ (by omega);have hcl:=hcell k (by omega);have hcl':=hcell' k (by omega);clear hcell hcell';have hk0:(0:Int)≤(k:Int):=by omega
     have hk1:(k:Int) < (n:Int):=by omega
     rcases Nat.lt_trichotomy (dg ds k) (dg es k) with hx|hx|hx
     ·have b1:decide (((dg ds k:Nat):Int) < ((dg es k:Nat):Int))=true:=by rw [decide_eq_true_iff];omega
      have b2:decide (dg ds k < dg es k)=true:=by rw [decide_eq_true_iff];omega
      go_wp2
      go_quiet (fail)
      go_wp2;go_ret;refine jby (z:= -1) (by simp) (jhU ?_) bi;refine Pos.nv_lt_of_top HD.o.dig (by have:=HD.o.len;have:=HE.o.len;omega) k (by have:=HD.o.len;omega) HV.o ?_;rw [←gd,←gd];exact hx
     ·have b1:decide (dg ds k < dg es k)=false:=by rw [decide_eq_false_iff_not];omega
      have b2:decide (dg es k < dg ds k)=false:=by rw [decide_eq_false_iff_not];omega
      have HX:=qh hx;clear hx;go_wp2
      go_quiet (fail)
      go_wp2
      go_quiet (fail)
      go_wp2
      go_roundw
      case rel=>exact ⟨k,_,by omega,by go_num,rfl,jny (by have:=HD.o.len;omega) (by have:=HD.o.len;have:=HE.o.len;omega) HV.o HX.o⟩
      case measure=>simp [intOf]
     ·have b1:decide (dg ds k < dg es k)=false:=by rw [decide_eq_false_iff_not];omega
      have b2:decide (dg es k < dg ds k)=true:=by rw [decide_eq_true_iff];omega
      go_wp2
      go_quiet (fail)
      go_wp2
      go_quiet (fail)
      go_wp2;go_ret;refine jby (z:=1) (by simp) (jhK ?_) bi;refine Pos.nv_lt_of_top HE.o.dig (by have:=HD.o.len;have:=HE.o.len;omega) k (by have:=HE.o.len;omega) HV.o.symm ?_;rw [←gd,←gd];exact hx
 ·have b1:((n:Int) != (n':Int))=true:=by rw [bne_iff_ne];omega
  have b2:decide (n < n')=false:=by rw [decide_eq_false_iff_not];omega
  go_enter func87,ntmps87;go_wp2;go_ret;exact jby rfl (jhK (Pos.nv_lt_of_len jal HE.o.dig t (by have:=HD.o.len;have:=HE.o.len;omega))) bi

theorem jj2 (b x:Nat) (l:List Nat):Pos.nv b (x::l)=x+b*Pos.nv b l:=rfl
theorem jgU {ds:List Nat} {i:Nat} (h:i < ds.length):ds.drop i=dg ds i::ds.drop (i+1):=by
 rw [List.drop_eq_getElem_cons h,gd h]
def zq (i:Nat) (qs:List Nat):List Int:=List.replicate i 0++iz qs
theorem jqO (i:Nat) (qs:List Nat):(zq i qs).length=i+qs.length:=by simp [zq,iz]
theorem jva (i q:Nat) (qs:List Nat):(zq (i+1) qs).set i (q:Int)=zq i (q::qs):=by
 unfold zq;rw [List.replicate_succ',List.append_assoc,List.set_append_right _ _ (by simp)];simp [iz]
theorem jlH {d x r Q q r' v:Nat} (hv:v=d*Q+r) (h:r*B9+x=d*q+r'):x+B9*v=d*(q+B9*Q)+r':=by
 rw [hv,Nat.mul_add,Nat.mul_add];have:B9*(d*Q)=d*(B9*Q):=by rw [←Nat.mul_assoc,←Nat.mul_assoc,Nat.mul_comm B9 d]
 have:B9*r=r*B9:=Nat.mul_comm ..;omega
theorem jsN {d x r:Nat} (hr:r < d) (hx:x < B9):(r*B9+x) / d < B9:=by
 rw [Nat.div_lt_iff_lt_mul (by omega)];have:(r+1)*B9≤d*B9:=Nat.mul_le_mul_right _ hr;rw [Nat.add_mul,Nat.one_mul] at this;rw [Nat.mul_comm B9 d];omega
theorem jrL {d x r:Nat} (hr:r < d) (hd:d < B9) (hx:x < B9):r*B9+x < 1000000000000000000:=by
 have h:(r+1)*B9≤d*B9:=Nat.mul_le_mul_right _ hr;have h2:d*B9≤B9*B9:=Nat.mul_le_mul_right _ (Nat.le_of_lt hd);rw [Nat.add_mul,Nat.one_mul] at h;simp only [jaq] at*;omega
theorem jom {v d Q r:Nat} (hv:v=d*Q+r) (hr:r < d):Q=v / d∧v % d=r:=by
 subst hv;rw [Nat.mul_add_div (by omega),Nat.div_eq_of_lt hr,Nat.mul_add_mod,Nat.mod_eq_of_lt hr];exact ⟨rfl,rfl⟩
theorem jn8 {W:World} {g:Nat} {T:TypeId} {qs:List Nat} (hn:qs.length < 1099511627776) (hd:Pos.Dig B9 qs) (h:Blk W g T (jdV (zq 0 qs))):Dv W (some ⟨g,0,none⟩) qs.length qs:=by
 refine ⟨rfl,hd,hn,fun h0=>⟨g,0,rfl,h.lt,fun j hj=> ?_⟩⟩;rw [Nat.zero_add,h.cell j,jfc (by rw [jqO];omega),show zq 0 qs=iz qs from rfl,jeq]
section
variable {w:World} {A:Option Addr} {n c:Nat} {ds:List Nat} {d:Nat}
theorem jhm (h:Dv w A n ds) (hd0:0 < d) (hd:d < B9):Calls prog 132 #[.slice A n c, .int .i64 (d:Int)] w fun e w'=>
  ∃k es,e= .returned (.tuple #[.slice (some ⟨w.heap.size,0,none⟩) k n, .int .i64 ((Pos.nv B9 ds % d:Nat):Int)])∧Dv w' (some ⟨w.heap.size,0,none⟩) k es∧Pos.Trim es∧Pos.nv B9 es=Pos.nv B9 ds / d∧k≤n∧Below w.heap.size w w':=by
 have H:=qh h;have HN:=qh h.big;have HDD:=qh (ai hd0 hd);have hmk:=fun W=>jgZ n (by have:=HN.o;omega) W
 have m0:wrap64 ((n:Int) - 1)=(n:Int) - 1:=by have:=HN.o;unfold wrap64;omega
 clear h hd0 hd;go_enter func132,ntmps132;go_wp2
 go_loopw [7,8,9] (fun u v _ wr=>∃(r i:Nat) (qs:List Nat),u= .int .i64 (r:Int)∧v= .int .i64 ((i:Int) - 1)∧i≤n∧r < d∧qs.length+i=n∧Pos.Dig B9 qs∧Pos.nv B9 (ds.drop i)=d*Pos.nv B9 qs+r∧Blk wr w.heap.size 3 (jdV (zq i qs))∧Below w.heap.size w wr) (fun _ v _ _=>(intOf v+1).toNat)
 case atStart=>
  refine ⟨0,n,[],rfl,by rw [m0],Nat.le_refl _,HDD.o.1,by simp,Pos.Dig.nil, ?_, ?_,bi⟩
  ·rw [List.drop_eq_nil_of_le (by have:=H.o.len;omega)];simp [Pos.nv]
  ·have:=Blk.new w 3 (jdV (List.replicate n 0));simpa [zq,iz] using this
 case round=>
  obtain ⟨r,i,qs,rfl,rfl,hin,hr,hq,hdq,hv,hO,hb⟩:=hrel;have _:=bm hb;cases i with
  | zero=>
    have q0:decide ((0:Int)≤((0:Nat):Int) - 1)=false:=by decide
    have hql:qs.length=n:=by omega
    rw [List.drop_zero] at hv;have hvd:=jom hv hr;have hD:=jn8 (qs:=qs) (by have:=HN.o;omega) hdq hO;rw [hql] at hD;have HD:=qh hD;have HV:=qh hvd;clear hv hr hin hql hD hdq hO hvd;go_wp2_with ((go_at_call 120;(with_reducible refine (jjv _ n n qs _ HD.o (Nat.le_refl _) (by have:=HN.o;omega)).mono ?_);rintro e1 w1 ⟨k,hk,ht,hv,rfl,rfl⟩;have HK:=qh (ai hk (ai ht hv));clear hk ht hv))
    go_ret2;exact ⟨k,qs.take k,by rw [HV.o.2];rfl,HD.o.take HK.o.1,HK.o.2.1,by rw [HK.o.2.2,HV.o.1],HK.o.1,hb⟩
  | succ i=>
    have q0:decide ((0:Int)≤((i+1:Nat):Int) - 1)=true:=by rw [decide_eq_true_iff];omega
    obtain ⟨b,o,rfl,hlt,hcell⟩:=(H.o.below hb).at_ (by omega);have hcl:=hcell i (by omega);have hx:=jci H.o.dig i;have hsd:=jgU (ds:=ds) (i:=i) (by rw [H.o.len];omega);obtain ⟨x,hxx⟩:∃x,dg ds i=x:=⟨_,rfl⟩;rw [hxx] at hcl hx hsd;have hs:=jrL hr HDD.o.2 hx;have hql:=jsN hr hx;have hdm:=Nat.div_add_mod (r*B9+x) d;have hrl:=Nat.mod_lt (r*B9+x) HDD.o.1;have m1:wrap64 ((r:Int)*1000000000)=(r:Int)*1000000000:=by simp only [jaq] at hs;unfold wrap64;omega
    have m2:wrap64 ((r:Int)*1000000000+(x:Int))=(r:Int)*1000000000+(x:Int):=by simp only [jaq] at hs;unfold wrap64;omega
    have e1:(r:Int)*1000000000+(x:Int)=((r*B9+x:Nat):Int):=by rw [jaq];omega
    have m3:((r:Int)*1000000000+(x:Int)).tdiv (d:Int)=(((r*B9+x) / d:Nat):Int):=by rw [e1,Int.ofNat_tdiv]
    have m4:((r:Int)*1000000000+(x:Int)).tmod (d:Int)=(((r*B9+x) % d:Nat):Int):=by rw [e1,Int.ofNat_tmod]
    obtain ⟨q,hqq⟩:∃q,(r*B9+x) / d=q:=⟨_,rfl⟩;obtain ⟨s,hss⟩:∃s,(r*B9+x) % d=s:=⟨_,rfl⟩;rw [hqq] at m3 hql hdm;rw [hss] at m4 hdm hrl;have m5:wrap64 (q:Int)=q:=by rw [jaq] at hql;unfold wrap64;omega
    have g0:((d:Int)==0)=false:=by rw [beq_eq_false_iff_ne];have:=HDD.o.1;omega
    have g1:(d:Int)≠0:=by have:=HDD.o.1;omega
    have g2:¬d=0:=by have:=HDD.o.1;omega
    have m6:wrap64 ((i:Int) - 1)=(i:Int) - 1:=by have:=HN.o;unfold wrap64;omega
    have k0:=hO.cell i;rw [jfc (by rw [jqO];omega)] at k0;have k1:=hO.frozen i;have hset:=jva i q qs;have HS:=qh (ai (show Pos.nv B9 (ds.drop i)=d*Pos.nv B9 (q::qs)+s by rw [hsd,jj2,jj2];exact jlH hv hdm.symm) (ai hrl (ai hql (ai hdq hset))));have HO:=qh hO;have hi1:((i+1:Nat):Int) - 1=(i:Int):=by omega
    rw [hi1] at q0 ⊢;have HII:=qh (ai hin hq);clear hcell hx hsd hxx hs hdm hrl e1 hqq hss hset hv hdq hql hr hO hi1;go_wp2;refine ⟨⟨s,i,q::qs,rfl,by rw [m6],by have:=HII.o;omega,HS.o.2.1,by have:=HII.o;simp;omega,fun y hy=> ?_,HS.o.1, ?_,bi⟩,by rw [m6];simp [intOf]⟩
    ·rcases List.mem_cons.1 hy with rfl|hy
     ·exact HS.o.2.2.1
     ·exact HS.o.2.2.2.1 y hy
    ·have:=HO.o.set_ i (.int .i64 (q:Int));rw [jgX,HS.o.2.2.2.2] at this;exact this
end

theorem jcc {A A':Option Addr} {n n' c c':Nat} {ds es:List Nat} {w:World} {g:Int} (hg:sgn (((Pos.nv B9 ds:Nat):Int) - ((Pos.nv B9 es:Nat):Int))=g) (h:Dv w A n ds) (h':Dv w A' n' es) (t:Pos.Trim ds) (t':Pos.Trim es):
  Calls prog 87 #[.slice A n c, .slice A' n' c'] w fun e w'=>e= .returned (.int .i64 g)∧Below w.heap.size w w':=by
 subst hg;exact joj h h' t t'
theorem jjW {W:World} {T:TypeId} {r:Nat} (hr:r < B9):Dv (W.alloc (.cells #[.int .i64 (r:Int)] T)) (some ⟨W.heap.size,0,none⟩) 1 [r]:=
 jn8 (qs:=[r]) (by simp) (fun x hx=>by rw [List.mem_singleton] at hx;subst hx;exact hr) (Blk.new W T _)
def jq6 (x y n c:Nat) (w:World) (e:Ending) (w':World):Prop:=
 ∃Q k k' R j j' qs rs,e= .returned (.tuple #[.slice Q k k', .slice R j j'])∧Dv w' Q k qs∧Pos.Trim qs∧Pos.nv B9 qs=x / y∧Dv w' R j rs∧Pos.Trim rs∧Pos.nv B9 rs=x % y∧(n≤c→c < 9223372036854775808→(k≤k'∧k' < 9223372036854775808)∧j≤j'∧j' < 9223372036854775808)∧Below w.heap.size w w'
section
variable {w:World} {A A':Option Addr} {n n' c c':Nat} {ds es:List Nat}
theorem jn7 (h:Dv w A n ds) (h':Dv w A' n' es) (t:Pos.Trim ds) (t':Pos.Trim es) (hs:Pos.nv B9 ds < Pos.nv B9 es):Calls prog 85 #[.slice A n c, .slice A' n' c'] w (jq6 (Pos.nv B9 ds) (Pos.nv B9 es) n c w):=by
 have HC:=qh (fun W (hb:Below w.heap.size w W)=>jcc (w:=W) (c:=c) (c':=c') (g:= -1) (by unfold sgn;rw [if_pos (by omega)]) (h.below hb) (h'.below hb) t t');have HR:=qh (ai h (ai t hs));clear h h' t t' hs;go_enter func85,ntmps85;go_wp2_with (go_at_call 87;(with_reducible refine mo0 (HC.o _ bi) fun w1 hb1 hc1 hf1 _=> ?_))
 go_ret2;exact ⟨none,0,0,A,n,c,[],ds,rfl,Dv.nil _ _,Pos.Trim.nil,by rw [Nat.div_eq_of_lt HR.o.2.2];rfl,HR.o.1.below bi,HR.o.2.1,by rw [Nat.mod_eq_of_lt HR.o.2.2],fun h1 h2=>⟨⟨Nat.le_refl _,by omega⟩,h1,h2⟩,bi⟩
theorem joV (h:Dv w A n ds) (h':Dv w A' 1 es) (t:Pos.Trim ds) (t':Pos.Trim es) (hs:¬Pos.nv B9 ds < Pos.nv B9 es):Calls prog 85 #[.slice A n c, .slice A' 1 c'] w (jq6 (Pos.nv B9 ds) (Pos.nv B9 es) n c w):=by
 obtain ⟨g,hg⟩:∃g,sgn (((Pos.nv B9 ds:Nat):Int) - ((Pos.nv B9 es:Nat):Int))=g:=⟨_,rfl⟩
 have q0:decide (g < 0)=false:=by
  rw [decide_eq_false_iff_not,←hg];unfold sgn;rw [if_neg (by omega)];split <;> omega
 have HC:=qh (fun W (hb:Below w.heap.size w W)=>jcc (w:=W) (c:=c) (c':=c') hg (h.below hb) (h'.below hb) t t')
 obtain ⟨y,hy⟩:∃y,es=[y]:=by
  have:=h'.len
  match es,this with
  | [y],_=>exact ⟨y,rfl⟩
 subst hy
 have hy0:0 < y:=by
  have:=Pos.nv_pos jal t' (by simp);rwa [Pos.nv_one] at this
 have hy9:y < B9:=h'.dig y (by simp);rw [Pos.nv_one] at hs ⊢;have HY:=qh (ai hy0 (ai hy9 (Nat.mod_lt (Pos.nv B9 ds) hy0)));have H:=qh h;have H':=qh h';clear h h' t t' hs hg hy0 hy9;go_enter func85,ntmps85;go_wp2_with (first|((go_at_call 87;(with_reducible refine mo0 (HC.o _ bi) fun w1 hb1 hc1 hf1 _=> ?_));obtain ⟨b,o,rfl,hlt,hcell⟩:=(H'.o.below hb1).at_ (by omega);have hcl:w1.cell? ⟨b,o,none⟩=some (.int .i64 (y:Int)):=hcell 0 (by omega);clear hcell hlt)|(go_at_call 132;(with_reducible refine (jhm (H.o.below bi) HY.o.1 HY.o.2.1).mono ?_);rintro e2 w2 ⟨k2,qs,rfl,hD2,ht2,hv2,hk2,hb2⟩;have _:=bm hb2;have H2:=qh (ai hD2 (ai ht2 (ai hv2 hk2)));clear hD2 ht2 hv2 hk2)|(go_at_call 120;refine (jjv _ 1 1 [Pos.nv B9 ds % y] _ (jjW (Nat.lt_trans HY.o.2.2 HY.o.2.1)) (Nat.le_refl _) (by omega)).mono ?_;rintro e3 w3 ⟨k3,hk3,ht3,hv3,rfl,rfl⟩;have H3:=qh (ai hk3 (ai ht3 hv3));clear hk3 ht3 hv3))
 go_ret2;exact ⟨_,k2,n,_,k3,1,qs,[Pos.nv B9 ds % y].take k3,rfl,H2.o.1.below bi,H2.o.2.1,H2.o.2.2.1,(jjW (Nat.lt_trans HY.o.2.2 HY.o.2.1)).take H3.o.1,H3.o.2.1,by rw [H3.o.2.2,Pos.nv_one],fun _ _=>⟨⟨H2.o.2.2.2,Nat.lt_trans H.o.big (by decide)⟩,H3.o.1,by decide⟩,bi⟩
end

def valOf (w:World) (v:Value):Nat:=match v with
 | .slice (some a) n _=>Pos.nv B9 ((List.range n).map fun j=>match w.cell? ⟨a.block,a.off+j,none⟩ with|some (.int _ z)=>z.toNat | _=>0)
 | _=>0
theorem Dv.valOf {w:World} {A:Option Addr} {n c:Nat} {ds:List Nat} (h:Dv w A n ds):valOf w (.slice A n c)=Pos.nv B9 ds:=by
 rcases Nat.eq_zero_or_pos n with h0|h0
 ·subst h0;obtain rfl:ds=[]:=List.length_eq_zero_iff.1 h.len;unfold Go.Proofs.YtfagcpcikjlboaaGreatDoor.valOf;cases A <;> simp [Pos.nv]
 ·obtain ⟨b,o,rfl,_,hc⟩:=h.at_ h0;unfold Go.Proofs.YtfagcpcikjlboaaGreatDoor.valOf;dsimp only
  congr 1
  apply List.ext_getElem
  ·simp [h.len]
  ·intro j h1 h2;simp only [List.getElem_map,List.getElem_range];rw [hc j (by simpa using h1),gd (by rw [h.len];simpa using h1)];simp
section
variable {w:World} {A A':Option Addr} {n n' c c':Nat} {ds es:List Nat}
theorem jfV (h:Dv w A n ds) (h':Dv w A' n' es) (t:Pos.Trim ds) (t':Pos.Trim es) (hs:n'=1∨Pos.nv B9 ds < Pos.nv B9 es):Calls prog 85 #[.slice A n c, .slice A' n' c'] w (jq6 (Pos.nv B9 ds) (Pos.nv B9 es) n c w):=by
 by_cases hlt:Pos.nv B9 ds < Pos.nv B9 es
 ·exact jn7 h h' t t' hlt
 ·obtain rfl:n'=1:=by rcases hs with h|h;exact h;exact absurd h hlt
  exact joV h h' t t' hlt
end

theorem k64 {i:Nat} (h:i < 4294967296):IntKind.i64.wrap ((i:Int)+1)=(i:Int)+1:=by rw [IntKind.wrap_i64];omega
section
variable {w:World} {l a b:List UInt8} {k x y:Nat}
end
end Go.Proofs.YtfagcpcikjlboaaGreatDoor
