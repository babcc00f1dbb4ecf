/- Parts. -/
import Derived.Test.YtfagcpcikjlboaaGreatDoorTj
import Derived.Test.YtfagcpcikjlboaaGreatDoorSrt
import Derived.Maps.RangeWalk
set_option linter.all false
set_option maxRecDepth 100000
set_option maxHeartbeats 8000000
namespace Go.Proofs.YtfagcpcikjlboaaGreatDoor
open Go Go.RowKit Go.Proofs.Tryz

abbrev jzS (w:World) (base:Nat) (v:Value) (n:Nat) (ps:List (List UInt8×List UInt8)):Prop:=w.ownsRow base 60 2 v n (shs ps)
theorem jzS.pv {w:World} {base n:Nat} {v:Value} {ps:List (List UInt8×List UInt8)} (h:jzS w base v n ps) (hl:ps.length=n) (h0:0 < n):∃A c,v= .slice A n c∧Pv w A n ps:=by
 rcases h.2 with ⟨rfl,h1⟩|⟨g,cap,cur,rfl,hb,hg,hnc,hcm,hcs,ht⟩
 ·omega
 ·refine ⟨some ⟨g,0,none⟩,cap,rfl,hl,fun _=>⟨g,0,rfl,(Array.getElem?_eq_some_iff.1 hg).1,fun j hj=> ?_⟩⟩;have hc:=World.ownsRow.cells h (g:=g) rfl
  have c (k:Nat) (hk:k < 2) (u:Value) (hu:(shs [ps.getD j ([],[])])[k]? =some u):w.cell? ⟨g,0+j*2+k,none⟩=some u:=by
   have:=hc (j*2+k) u (by rw [jyq ps j k (by omega) hk,hu]);rw [jdP] at this;rw [Nat.zero_add];exact this
  exact ⟨c 0 (by omega) _ rfl,c 1 (by omega) _ rfl⟩
theorem jzS.below {w w':World} {base n:Nat} {v:Value} {ps:List (List UInt8×List UInt8)} (h:jzS w base v n ps) (hb:Below w.heap.size w w'):jzS w' base v n ps:=
 World.ownsRow.kept h (je8 hb none) (by cases hv:v.ownBlock <;> simp)
theorem jAP:(prog.info? 60).map (fun i=>(i.zero,i.size,i.bytes))=some (some (.agg #[.string ByteArray.empty, .string ByteArray.empty]),2,32):=by kernel_rfl
theorem jAN {w:World} {base n b c:Nat} {v:Value} {ps:List (List UInt8×List UInt8)} {x:List UInt8×List UInt8} (h:jzS w base v n ps) (hn:n≤100000) (hb:base≤w.heap.size)
  (h0:w.cell? ⟨b,0,none⟩=some (bs x.1)) (h1:w.cell? ⟨b,1,none⟩=some (bs x.2)):
  ∃v' w',(Builtin.append_ #[56,56] 56 #[v, .slice (some ⟨b,0,none⟩) 1 c]).run prog w= .ok v' w'∧jzS w' base v' (n+1) (ps++[x])∧w.grownBy w' v.ownBlock∧(v'.ownBlock=v.ownBlock∨v'.ownBlock=some w.heap.size):=by
 obtain ⟨i,hi,hz0,hz1,hz2⟩:=info_parts jAP
 obtain ⟨v',w',hr,k1,k2,_,k3⟩:=run_append_own_at (P:=prog) w base 56 56 60 i _ 2 32 underlying56 hi hz0 hz1 hz2 rfl (by decide) v n (shs ps) h ⟨b,0,none⟩ 1 c (shs [x]) (by simp [shs])
  (by
    intro j u hu;rw [jdP]
    match j,hu with
    | 0,hu=>simp [shs] at hu;subst hu;exact h0
    | 1,hu=>simp [shs] at hu;subst hu;exact h1
    | j+2,hu=>simp [shs] at hu)
  (by intro u hu;simp [shs] at hu;rcases hu with rfl|rfl <;> rfl)
  (by simp only [maxLen];omega) (by omega) hb
 exact ⟨v',w',hr,by rw [jzS,jwL];exact k1,k2,k3⟩
theorem jz9 {ops:Array Oper} {rest:List Oper} {o:Oper} {a:Act} {Q:Exit→Act→World→Prop} {w:World} {base n b c:Nat} {v:Value} {ps:List (List UInt8×List UInt8)} {x:List UInt8×List UInt8} (hg:o.guard=none) (s y:Operand)
  (ho:o.op= .call { callee:= .builtin .append,args:= #[s,y],argTypes:= #[56,56] }) (ht:o.type=56) (hs:a.eval s=v) (hy:a.eval y= .slice (some ⟨b,0,none⟩) 1 c)
  (h:jzS w base v n ps) (hn:n≤100000) (hb:base≤w.heap.size) (h0:w.cell? ⟨b,0,none⟩=some (bs x.1)) (h1:w.cell? ⟨b,1,none⟩=some (bs x.2))
  (hK:∀v' w',jzS w' base v' (n+1) (ps++[x])→w.grownBy w' v.ownBlock→(v'.ownBlock=v.ownBlock∨v'.ownBlock=some w.heap.size)→wpList prog ops Q rest (a.put o.dst v') w'):wpList prog ops Q (o::rest) a w:=by
 obtain ⟨v',w',hr,k1,k2,k3⟩:=jAN h hn hb h0 h1;refine wpList_plain hg fun K' hK'=> ?_
 exact jiI s y ho hs hy (by rw [ht];exact hr) (hK' _ _ (hK v' w' k1 k2 k3))
theorem jzS.slice {w:World} {base n:Nat} {v:Value} {ps:List (List UInt8×List UInt8)} (h:jzS w base v n ps):∃A c,v= .slice A n c:=by
 rcases h.2 with ⟨rfl,h1⟩|⟨g,cap,cur,rfl,_⟩
 ·exact ⟨none,0,by rw [h1]⟩
 ·exact ⟨_,_,rfl⟩
theorem jz3 {ops:Array Oper} {rest:List Oper} {o:Oper} {a:Act} {Q:Exit→Act→World→Prop} {w:World} {base n b c:Nat} {v:Value} {ps:List (List UInt8×List UInt8)} {x:List UInt8×List UInt8} (hg:o.guard=none) (s y:Operand)
  (ho:o.op= .call { callee:= .builtin .append,args:= #[s,y],argTypes:= #[56,56] }) (ht:o.type=56) (hs:a.eval s=v) (hy:a.eval y= .slice (some ⟨b,0,none⟩) 1 c)
  (h:jzS w base v n ps) (hn:n≤100000) (hb:base≤w.heap.size) (h0:w.cell? ⟨b,0,none⟩=some (bs x.1)) (h1:w.cell? ⟨b,1,none⟩=some (bs x.2))
  (hK:∀A' c' w',jzS w' base (.slice A' (n+1) c') (n+1) (ps++[x])→w.grownBy w' v.ownBlock→((Value.slice A' (n+1) c').ownBlock=v.ownBlock∨(Value.slice A' (n+1) c').ownBlock=some w.heap.size)→wpList prog ops Q rest (a.put o.dst (.slice A' (n+1) c')) w'):wpList prog ops Q (o::rest) a w:=
 jz9 hg s y ho ht hs hy h hn hb h0 h1 (fun v' w' k1 k2 k3=>by
  obtain ⟨A',c',rfl⟩:=k1.slice
  exact hK A' c' w' k1 k2 k3)
def jzu (x y:List UInt8):Int:=if x < y then -1 else if y < x then 1 else 0
section
variable {w:World} {x y a b:List UInt8}
theorem jAq:Calls prog 159 #[bs x] w fun e w'=>e= .returned (.bool false)∧w'=w:=by
 go_enter func159,ntmps159;go_wp2;go_ret;exact ⟨by simp,rfl⟩
theorem jC2 (W:World):(binOp .gtr 9 (bs x) (bs y)).run prog W= .ok (.bool (!(decide (x < y) || decide (x=y)))) W:=by
 have h1:=bytesLess_eq x y;have h2:(x==y)=decide (x=y):=by rw [Bool.eq_iff_iff];simp
 simp [Go.binOp,Op.stringOp,h1,h2]
theorem jC6:Calls prog 113 #[bs x,bs y] w fun e w'=>e= .returned (.int .i64 (jzu x y))∧w'=w:=by
 have e1:=bytesLess_eq x y;have e2:=fun W=>jC2 (x:=x) (y:=y) W
 unfold jzu;by_cases h1:x < y
 ·have p1:decide (x < y)=true:=decide_eq_true h1;rw [if_pos h1];clear h1;go_enter func113,ntmps113;go_wp2_with (go_at_call 159;(with_reducible refine jAq.mono ?_);rintro e9 w9 ⟨rfl,rfl⟩)
  go_ret;exact ⟨rfl,rfl⟩
 ·have p1:decide (x < y)=false:=decide_eq_false h1;rw [if_neg h1];by_cases h2:x=y
  ·subst h2;rw [if_neg h1];have p2:(!(decide (x < x) || decide (x=x)))=false:=by simp
   rw [p2] at e2;clear h1;go_enter func113,ntmps113;go_wp2_with (go_at_call 159;(with_reducible refine jAq.mono ?_);rintro e9 w9 ⟨rfl,rfl⟩)
   go_ret;exact ⟨rfl,rfl⟩
  ·have h3:y < x:=Classical.byContradiction fun h=>h2 (List.le_antisymm (List.not_lt.1 h) (List.not_lt.1 h1))
   have p2:(!(decide (x < y) || decide (x=y)))=true:=by rw [p1,decide_eq_false h2];rfl
   rw [p2] at e2;rw [if_pos h3];clear h1 h2 h3;go_enter func113,ntmps113;go_wp2_with (go_at_call 159;(with_reducible refine jAq.mono ?_);rintro e9 w9 ⟨rfl,rfl⟩)
   go_ret;exact ⟨rfl,rfl⟩
end
end Go.Proofs.YtfagcpcikjlboaaGreatDoor
namespace Go.Proofs.YtfagcpcikjlboaaGreatDoor
open Go Go.RowKit Go.Sort Go.Shelf Go.Lib Go.Proofs.Tryz

section
variable {w:World} {x y a b:List UInt8}
theorem jAM:Calls prog 112 #[.agg #[bs x,bs a], .agg #[bs y,bs b]] w fun e w'=>e= .returned (.int .i64 (jzu x y))∧∃q os',w'=grow (w.drewN q) os':=by
 have hcon:=fun W'=>jC6 (w:=W') (x:=x) (y:=y)
 generalize jzu x y=r at hcon ⊢;go_enter func112,ntmps112;go_wp2_with (go_at_call 113;refine (hcon _).mono ?_;rintro e w' ⟨rfl,rfl⟩)
 go_ret;exact ⟨rfl,0,_,by rw [alloc_eq_grow,alloc_eq_grow,grow_grow];rfl⟩
end
def jBR (txt:List UInt8→List UInt8) (x:List UInt8):List Value:=[bs x,bs (txt x)]
def amL (txt:List UInt8→List UInt8) (ks:List (List UInt8)):List (List UInt8×List UInt8):=ks.map fun k=>(k,txt k)
theorem jB4 {α β:Type} {f:α→β} {l:List α} {j:Nat} {d:α} {e:β} (h:j < l.length):(l.map f).getD j e=f (l.getD j d):=by
 rw [List.getD_eq_getElem?_getD,List.getElem?_map,List.getD_eq_getElem?_getD (l:=l),List.getElem?_eq_getElem h];rfl
theorem ltM (x y:List UInt8):ltOf jzu x y=decide (x < y):=by
 unfold ltOf jzu;by_cases h1:x < y
 ·simp [h1]
 ·by_cases h2:y < x <;> simp [h1,h2]
theorem jCy:SWO (ltOf jzu) where
 irrefl x:=by rw [ltM];simp
 trans x y z h1 h2:=by rw [ltM] at*;simp only [decide_eq_true_eq] at*;exact List.lt_trans h1 h2
 ntrans x y z h1 h2:=by rw [ltM] at*;simp only [decide_eq_false_iff_not] at*;exact List.not_lt.2 (List.le_trans (List.not_lt.1 h2) (List.not_lt.1 h1))
theorem jCz (x y:List UInt8) (h1:ltOf jzu x y=false) (h2:ltOf jzu y x=false):x=y:=by
 rw [ltM] at*;simp only [decide_eq_false_iff_not] at*;exact List.le_antisymm (List.not_lt.1 h2) (List.not_lt.1 h1)
theorem jCq {α:Type} [Inhabited α] (enc:α→List Value) (k:Nat) (w:World) (g n:Nat) (d:Array α) (os:Array Obj):w.grownBy (sortWorldK enc k w g 0 n d os) (some g):=by
 refine ⟨rfl,rfl,rfl,by simp [sortWorldK,putRowK,putRow,mapBlock,Sort.ahead],fun j hj hne=> ?_⟩;unfold sortWorldK putRowK;rw [heap_grow_old _ _ (by simpa using hj)];have:g≠j:=fun e=>hne (by rw [e])
 simp [putRow,mapBlock,Sort.ahead,Array.getElem?_modify,this]
section
variable {w:World} {base g n c:Nat} {d ks:List (List UInt8)} {txt:List UInt8→List UInt8}
theorem jCd (h:jzS w base (.slice (some ⟨g,0,none⟩) n c) n (amL txt d)) (hl:d.length=n):HoldsK (jBR txt) 2 w g 0 d.toArray:=by
 intro j hj;rw [size_flatK,List.size_toArray,hl] at hj;have hc:=World.ownsRow.cellAt h j hj;refine ⟨?_,by rw [Nat.zero_add];exact World.ownsRow.frozenAt h j⟩;rw [Nat.zero_add,hc,get_flatK _ _ _ _ (by rw [List.size_toArray,hl];exact hj)];have hs:=jyq (amL txt d) (j / 2) (j % 2) (by rw [amL,List.length_map];omega) (by omega);rw [show j / 2*2+j % 2=j by omega] at hs;rw [hs];have e1:d.toArray[j / 2]! =d.getD (j / 2) []:=by simp [List.getD_eq_getElem?_getD];rfl
 have e2:(amL txt d).getD (j / 2) ([],[])=(d.getD (j / 2) [],txt (d.getD (j / 2) [])):=jB4 (d:=[]) (by omega);rw [e1,e2];rcases Nat.mod_two_eq_zero_or_one j with e|e <;> rw [e] <;> rfl
theorem pvM {w':World} (h:HoldsK (jBR txt) 2 w' g 0 ks.toArray) (hg:g < w'.heap.size) (hl:ks.length=n):Pv w' (some ⟨g,0,none⟩) n (amL txt ks):=by
 refine ⟨by rw [amL,List.length_map,hl],fun _=>⟨g,0,rfl,hg,fun j hj=> ?_⟩⟩;have e1:ks.toArray[j]! =ks.getD j []:=by simp [List.getD_eq_getElem?_getD];rfl
 have e2:(amL txt ks).getD j ([],[])=(ks.getD j [],txt (ks.getD j [])):=jB4 (d:=[]) (by omega)
 have c (q:Nat) (hq:q < 2):w'.cell? ⟨g,0+j*2+q,none⟩=some ((jBR txt (ks.getD j []))[q]!):=by
  have:=(h (j*2+q) (by rw [size_flatK,List.size_toArray,hl];omega)).1;rw [get_flatK _ _ _ _ (by rw [List.size_toArray,hl];omega),show (j*2+q) / 2=j by omega,show (j*2+q) % 2=q by omega,e1] at this;rw [show 0+j*2+q=0+(j*2+q) by omega];exact this
 rw [e2];exact ⟨c 0 (by omega),c 1 (by omega)⟩
theorem jBY (h:jzS w base (.slice (some ⟨g,0,none⟩) n c) n (amL txt d)) (hl:d.length=n) (hn:n≤100000) (hp:d.Perm ks) (ho:Ordered ks):
  Calls prog 111 #[.slice (some ⟨g,0,none⟩) n c, .func (.func 112) #[] #[]] w fun e w'=>e= .returned (.tuple #[])∧Pv w' (some ⟨g,0,none⟩) n (amL txt ks)∧w.grownBy w' (some g):=by
 have hH:=jCd h hl;have hgl:g < w.heap.size:=(World.ownsRow.lt h g rfl).2;have eg:∀args w,(callFunc 112 args).run prog w= .ok (.enter 112 args) w:=enters_of func112 (by kernel_rfl) rfl
 have hcon:=AnyQ.slices_SortFunc Tryz.sortAm 2 Tryz.isAgg60 Tryz.sizeOf60 (jBR txt) (fun _=>rfl) (fun x v hv=>by simp [jBR] at hv;rcases hv with rfl|rfl <;> rfl) jzu jCy 112 #[] g 0 c d.toArray w eg
  (fun _ _ _ _ x y=>jAM) hH hgl (by rw [List.size_toArray,hl];omega)
 rw [List.size_toArray,hl] at hcon;refine hcon.mono ?_
 rintro e w' ⟨rfl,d',m,os,hpm,hsr,rfl⟩
 rw [←hl] at hpm hsr;have hu:=sorted_unique_holds jCy jCz d.toArray d' (by simpa using hpm) (by simpa using hsr)
 have e1:(fun x y:List UInt8=> !ltOf jzu y x)=fun x y=>decide (x≤y):=by
  funext x y
  rw [ltM,Bool.eq_iff_iff];simp [List.not_lt]
 rw [e1,show d.toArray.toList=d from rfl,jAb hp ho] at hu;obtain rfl:d'=ks.toArray:=by rw [←hu]
 have hkl:ks.length=n:=by rw [←hp.length_eq,hl]
 exact ⟨rfl,pvM (holdsK_sortWorldK (jBR txt) 2 w g 0 m d.toArray ks.toArray os hgl hH (by rw [List.size_toArray,List.size_toArray,hl,hkl])) (lt_sortWorldK (jBR txt) 2 w g 0 m ks.toArray os hgl) hkl,jCq _ _ _ _ _ _ _⟩
end
end Go.Proofs.YtfagcpcikjlboaaGreatDoor
namespace Go.Proofs.YtfagcpcikjlboaaGreatDoor
open Go Go.RowKit Go.Maps Go.Sort Go.Proofs.Tryz

section
variable {w:World} {b n:Nat} {D:DataW Value} {cs:List (List UInt8×Rat)} {ks:List (List UInt8)} {txt:List UInt8→List UInt8}
theorem jBL (d:List (List UInt8)) (x:List UInt8):amL txt d++[(x,txt x)]=amL txt (d++[x]):=by simp [amL]
theorem jAQ (hE:Env w) (h:MapQ w b n D cs) (ho:Ordered ks) (hm:∀x,x∈ks↔jzj cs x=true) (h0:0 < ks.length) (hl:ks.length≤100000) (hs:∀k∈ks,StrQ (tot cs k)∧je3 (tot cs k)=false∧tq (tot cs k)=txt k):
  Calls prog 60 #[.map (some b)] w fun e w'=>∃A c,e= .returned (.tuple #[.slice A ks.length c, .int .i64 0])∧Pv w' A ks.length (amL txt ks)∧Below w.heap.size w w':=by
 have HE:=qh hE;have HQ:=qh h;have HO:=qh ho;have HM:=qh hm;have H0:=qh h0;have HL:=qh hl;have HS:=qh hs;have HZ:=qh (h.size ho.nodup hm);have hbl:=h.lt;clear hE h ho hm h0 hl hs;go_enter func60,ntmps60;go_wp2_with (at_range;refine wpList_range_own _ rfl _ 114 rfl 9 70 jyS underlying114 jzl b n D rfl HQ.o.own ?_;intro w0 hrg0 hg0 hs0)
 go_frame
 go_loopw [4] (fun v wr=>∃(left:Lit→Bool) (cnt:Nat) (d:List (List UInt8)),wr.ranges prog 9 jzl b w.heap.size n D left cnt∧jzS wr (w.heap.size+1) v d.length (amL txt d)∧Below w.heap.size w wr∧w.heap.size < wr.heap.size∧Collected D left d∧d.length+cnt≤ks.length) (fun _ wr=>wr.rangeLeft b w.heap.size)
 case atStart=>exact ⟨_,_,[],hrg0,World.ownsRow_nil _ _ _ _,jab hg0 (Nat.le_refl _) (fun k hk=>by cases hk),by omega,Collected.start D,by rw [HZ.o];simp⟩
 case round=>
  obtain ⟨left,cnt,d,hrg,how,hb,hsz,hcl,hdc⟩:=hrel;have _:=bm hb;have HRG:=qh hrg;have HOW:=qh how;have HCL:=qh hcl;have hll:=HL.o;have HBL:=qh (fun W (hg:wr.grownBy W (some w.heap.size))=>(Below.trans hb (jab hg hb.size (fun j hj=>by cases hj;exact Nat.le_refl _)):Below w.heap.size w W));have hcl2:=qh (fun hl0=>Collected.perm HCL.o HQ.o.own jyS underlying9 hl0);clear hrg how hcl hrg0 hg0 hs0;go_wp2_with (at_next;refine wpList_next_ranges _ rfl _ rfl 9 jyS jzl (fun x:List UInt8=>bs x) (fun v:Value=>v) (fun key kl hk=>by obtain ⟨x,hx,_⟩:=Maps.keyOf_str underlying9 hk;exact ⟨x,hx⟩) (fun v y _=>⟨v,rfl⟩) b w.heap.size n D left cnt rfl HRG.o ?_ ?_)
  ·intro h0 hl0;have hp:d.Perm ks:=(hcl2.out hl0).trans (HQ.o.keys HO.o.nodup HM.o).symm;have hle:=hp.length_eq;have hpos:=H0.o;rcases HOW.o.2 with ⟨_,h⟩|⟨g,cap,cur,hu,hgb,_⟩
   ·omega
   ·subst hu;have HP:=qh (ai hp hle);have HD:Hd (d.length≤100000):=qh (by omega);clear hp h0 hl0 hle;go_wp2_with (go_at_call 111;(with_reducible refine (jBY HOW.o rfl HD.o HP.o.1 HO.o).mono ?_);rintro e4 w4 ⟨rfl,hp4,hg4⟩)
    go_ret2;exact ⟨some ⟨g,0,none⟩,cap,by rw [HP.o.2];rfl,by rw [←HP.o.2];exact hp4,Below.trans hb (jab hg4 hb.size (fun j hj=>by cases hj;omega))⟩
  ·intro x v kl y ps w1 cnt1 hkx hlx hv hat hrg1 hlt hg1 hs1 hen;obtain ⟨x',ex,rfl,hxl⟩:=Maps.keyOf_str underlying9 hkx;obtain rfl:x=x':=by simpa [encStr] using ex
   obtain ⟨rfl,rfl⟩:DataW.held v=y∧[]=ps:=by simpa [jzl] using hv
   have hh:jzj cs x=true:=by rw [←HQ.o.has x];exact has_true_of_atKey hat
   obtain ⟨v',hv',hF⟩:=HQ.o.val x hh;obtain rfl:v=v':=by have:=(hat (.held v)).symm.trans (hv' (.held v));simpa using this
   have hb1:=HBL.o w1 hg1;obtain ⟨s9,A9,n9,c9,t9,B9,m9,d9,rfl,hr9⟩:=hF.below hb1;have HX:=qh (HS.o x ((HM.o x).2 hh));have HR:=qh hr9;have HE1:=qh (HE.o.below hb1);have HCL1:=qh (HCL.o.step hlx hat)
   have HOW1:=qh (World.ownsRow.kept HOW.o hg1 (by
    cases hv:Value.ownBlock u4 with
    | none=>exact .inl rfl
    | some j=>exact .inr (fun e=>by have:=(World.ownsRow.lt HOW.o j hv).1;cases e;omega)))
   have HRG1:=qh hrg1;have HLT:=qh hlt;have HB1:=qh hb1;have hsz1:w.heap.size < w1.heap.size:=by rw [hs1];exact hsz
   obtain ⟨z,hz⟩:∃z,tot cs x=z:=⟨_,rfl⟩;rw [hz] at HX HR;obtain ⟨T,hT⟩:∃T,txt x=T:=⟨_,rfl⟩;rw [hT] at HX;clear hkx hlx hv hat hh hv' hF hb1 hr9 hrg1 hlt hz ex hxl HBL
   go_wp2_with (first
    | ((go_at_call 52;(with_reducible refine mo0 (jbf HX.o.2.1 (HR.o.below bi) (HE1.o.below bi) HX.o.1) fun w2 hb2 hc2 hf2 _=> ?_));(first|have y2_0:=szl (k:=w1.heap.size) hb2 (by first|go_size|fail)|have y2_0:=Nat.one_pos))
    | ((go_at_call 53;(with_reducible refine mo0 (jzv (HR.o.below bi) (HE1.o.below bi) HX.o.1 HX.o.2.1) fun w3 hb3 hc3 hf3 _=> ?_));(first|have y3_0:=szl (k:=w1.heap.size) hb3 (by first|go_size|fail)|have y3_0:=Nat.one_pos))
    | (at_builtin;(with_reducible refine jz3 (x:=(x,T)) rfl _ _ rfl rfl rfl rfl (jzS.below HOW1.o bi) (by omega) (by have hbq:RowKit.Below w1.heap.size w1 w3:=bi;have:=hbq.size;simp;omega) (by simp [HX.o.2.2]) (by simp [HX.o.2.2]) ?_);intro A5 c5 w5 k1 k2 k3))
   have g5:(w3.alloc (.cells #[bs x,bs (tq z)] 60)).grownBy w5 u4.ownBlock:=k2;have b3:RowKit.Below w1.heap.size w1 (w3.alloc (.cells #[bs x,bs (tq z)] 60)):=bi;have hob:∀j,u4.ownBlock=some j→w.heap.size+1≤j:=fun j hj=>(World.ownsRow.lt HOW1.o j hj).1
   have b4:Below w.heap.size w (w3.alloc (.cells #[bs x,bs (tq z)] 60)):=ja0 HB1.o b3;have b5:Below w.heap.size w w5:=Below.trans b4 (jab g5 b4.size (fun j hj=>by have:=hob j hj;omega));have r5:=(HRG1.o.kept (je8 b3 none) (by simp) (by simp)).kept g5 (fun e=>by have:=hob b e.symm;omega) (fun e=>by have:=hob _ e.symm;omega);have hlt:=HLT.o;refine ⟨⟨_,cnt1,d++[x],r5, ?_,b5,Nat.lt_of_lt_of_le hsz1 (Nat.le_trans b3.size g5.size),HCL1.o,by rw [List.length_append,List.length_singleton];omega⟩,by rw [r5.left_eq,HRG.o.left_eq];exact hlt⟩;rw [←jBL,hT,List.length_append];exact k1
end
end Go.Proofs.YtfagcpcikjlboaaGreatDoor
