/- Parts. -/
import Derived.Test.YteokfcjdfjhhhaaGreatDoorMqG
import Derived.Test.YteokfcjdfjhhhaaGreatDoorIter
import Derived.Maps.Own
import Derived.Maps.OwnSet
import Derived.Maps.Views
set_option linter.all false
set_option maxRecDepth 100000
set_option maxHeartbeats 8000000
namespace Go.Proofs.YteokfcjdfjhhhaaGreatDoor
open Go Go.RowKit Go.Maps

abbrev jl9:Value:=fv 0 none 0 0 0 none 0 0
theorem jeI (w:World):(zeroValue 71).run Tryz.prog w= .ok jl9 w:=by kernel_rfl
theorem jcq:Keyed Tryz.prog 9:=string_keyed Tryz.underlying9
def jfS (v:Value):Option (DataW Value×List MemPlace):=some (.held v,[])
theorem jj9 {x:List UInt8} (h:x.length≤maxLen):keyOf Tryz.prog 9 (.string ⟨x.toArray⟩)=some (.string x):=
 WideMaps.keyOf_string_mk Tryz.underlying9 (s:=⟨x.toArray⟩) (show x.toArray.size≤maxLen by rw [List.size_toArray];exact h)

def tot:List (List UInt8×Rat)→List UInt8→Rat
 | [],_=>0
 | p::r,x=>(if p.1=x then p.2 else 0)+tot r x
def jbF (cs:List (List UInt8×Rat)) (x:List UInt8):Bool:=cs.any (fun p=>p.1==x)
theorem jdw (y x:List UInt8) (q:Rat):∀cs:List (List UInt8×Rat),tot (cs++[(y,q)]) x=(if y=x then q else 0)+tot cs x
 | []=>by simp [tot]
 | p::r=>by
   rw [List.cons_append,tot,jdw y x q r,tot];rw [←Rat.add_assoc,←Rat.add_assoc,Rat.add_comm (if p.1=x then p.2 else 0)]
theorem jdt (y x:List UInt8) (q:Rat) (cs:List (List UInt8×Rat)):jbF (cs++[(y,q)]) x=(jbF cs x || y==x):=by simp [jbF]
theorem jei {x:List UInt8}:∀{cs:List (List UInt8×Rat)},jbF cs x=false→tot cs x=0
 | [],_=>rfl
 | p::r,h=>by
   simp only [jbF,List.any_cons,Bool.or_eq_false_iff,beq_eq_false_iff_ne] at h;rw [tot,if_neg h.1,jei (cs:=r) h.2,Rat.zero_add]

def jcs (w:World) (b:Nat):Prop:=∀o z,w.cell? ⟨b,o,none⟩≠some (.int .u64 z)
theorem jcs.map {w:World} {b:Nat} {es:Array MapEntry} {cl:Nat} (hb:w.heap[b]? =some (.map es cl)):jcs w b:=fun o z h=>by simp [World.cell?,hb] at h
theorem Wd.turned {w w':World} {A:Option Addr} {n b:Nat} {ds:List Nat} (h:Wd w A n ds) (hb:jcs w b) (hg:w.grownBy w' (some b)):Wd w' A n ds:=
 ⟨h.len,h.dig,h.big,fun hn=>by
   obtain ⟨b',o,e,hl,hc⟩:=h.at_ hn
   have hne:b'≠b:=by
    rintro rfl
    exact hb _ _ (hc 0 hn)
   exact ⟨b',o,e,Nat.lt_of_lt_of_le hl hg.size,fun j hj=>hg.cell (hc j hj) (by simpa using hne)⟩⟩
theorem Rep.turned {w w':World} {s z:Int} {A:Option Addr} {n c b:Nat} (h:Rep w s A n c z) (hb:jcs w b) (hg:w.grownBy w' (some b)):Rep w' s A n c z:=by
 cases h with
 | small _ h0 h1=>exact .small _ h0 h1
 | plus _ _ _ ds h=>exact .plus _ _ _ ds ⟨h.wd.turned hb hg,h.trim,h.cap,h.lim,h.big⟩
 | minus _ _ _ ds h=>exact .minus _ _ _ ds ⟨h.wd.turned hb hg,h.trim,h.cap,h.lim,h.big⟩
theorem RepF.turned {w w':World} {s t:Int} {A B:Option Addr} {n c m d b:Nat} {x:Rat} (h:RepF w s A n c t B m d x) (hb:jcs w b) (hg:w.grownBy w' (some b)):RepF w' s A n c t B m d x:=⟨h.num.turned hb hg,h.den.turned hb hg⟩
theorem jbn {w w':World} {row:Option Nat} {b o:Nat} (hg:w.grownBy w' row) (hb:b < w.heap.size) (hne:some b≠row):w'.frozen? ⟨b,o,none⟩=w.frozen? ⟨b,o,none⟩:=by
 simp only [World.frozen?,hg.block b hb hne]
theorem jb4 {w:World} {b o:Nat} (v:Value):w.grownBy (w.setCell ⟨b,o,none⟩ v) (some b):=
 ⟨rfl,rfl,rfl,by simp [World.setCell],fun k _ hk=>by
   have hk':b≠k:=fun e=>hk (by rw [e])
   simp [World.setCell,Array.getElem?_modify,hk']⟩
theorem jh8 {v w w':World} {b:Nat} {row:Option Nat} (h:v.grownBy w (some b)) (hg:w.grownBy w' row) (hr:∀g,row=some g→v.heap.size≤g):v.grownBy w' (some b):=
 ⟨hg.os.trans h.os,hg.tape.trans h.tape,hg.output.trans h.output,Nat.le_trans h.size hg.size,fun k hk hb=>(hg.block k (Nat.lt_of_lt_of_le hk h.size) (fun e=>by have:=hr k e.symm;omega)).trans (h.block k hk hb)⟩

def IsF (w:World) (v:Value) (x:Rat):Prop:=∃s A n c t B m d,v=fv s A n c t B m d∧RepF w s A n c t B m d x
theorem IsF.below {w w':World} {v:Value} {x:Rat} (h:IsF w v x) (hb:Below w.heap.size w w'):IsF w' v x:=by
 obtain ⟨s,A,n,c,t,B,m,d,e,h⟩:=h;exact ⟨s,A,n,c,t,B,m,d,e,h.below hb⟩
theorem IsF.turned {w w':World} {v:Value} {x:Rat} {b:Nat} (h:IsF w v x) (hb:jcs w b) (hg:w.grownBy w' (some b)):IsF w' v x:=by
 obtain ⟨s,A,n,c,t,B,m,d,e,h⟩:=h;exact ⟨s,A,n,c,t,B,m,d,e,h.turned hb hg⟩
structure MapQ (w:World) (b n:Nat) (D:DataW Value) (cs:List (List UInt8×Rat)):Prop where
 own:w.ownsMap Tryz.prog 9 jfS b n D
 has:∀x,Maps.has D (.string x)=jbF cs x
 val:∀x,jbF cs x=true→∃v,(∀z,D.atKey (.string x) z= .held v)∧IsF w v (tot cs x)
theorem MapQ.made (w:World):MapQ (w.alloc (.map #[] 0)) w.heap.size 0 (.map []) []:=
 ⟨World.ownsMap_made _ _ _ _,fun x=>rfl,fun x h=>by simp [jbF] at h⟩
theorem MapQ.below {w w':World} {b n:Nat} {D:DataW Value} {cs:List (List UInt8×Rat)} (h:MapQ w b n D cs) (hb:Below w.heap.size w w'):MapQ w' b n D cs:=
 ⟨h.own.kept (row:=none) ⟨hb.os,hb.tape,hb.output,hb.size,fun k hk _=>hb.block k hk⟩ (by simp),h.has,fun x hx=>by
   obtain ⟨v,h1,h2⟩:=h.val x hx
   exact ⟨v,h1,h2.below hb⟩⟩
theorem MapQ.grown {w w':World} {b g n:Nat} {D:DataW Value} {cs:List (List UInt8×Rat)} (h:MapQ w b n D cs) (hN:jcs w g) (hbg:b≠g) (hg:w.grownBy w' (some g)):MapQ w' b n D cs:=
 ⟨h.own.kept hg (by simpa using hbg),h.has,fun x hx=>by
   obtain ⟨v,h1,h2⟩:=h.val x hx
   exact ⟨v,h1,h2.turned hN hg⟩⟩
theorem MapQ.lt {w:World} {b n:Nat} {D:DataW Value} {cs:List (List UInt8×Rat)} (h:MapQ w b n D cs):b < w.heap.size:=h.own.lt
theorem MapQ.keys {w:World} {b n:Nat} {D:DataW Value} {cs:List (List UInt8×Rat)} {ks:List (List UInt8)} (h:MapQ w b n D cs) (hn:ks.Nodup) (hm:∀x,x∈ks↔jbF cs x=true):ks.Perm (strKeys D):=by
 obtain ⟨es,hD,hk⟩:=h.own.keysOf;have ht:=h.own.tidy jcq;obtain ⟨es',hD',hp⟩:=ht;rw [hD] at hD';cases hD'
 subst hD;refine perm_strKeys hp (fun p hp=> ?_) hn (fun x=>by rw [hm x,←h.has x]);obtain ⟨v,hv⟩:=hk p hp;obtain ⟨x,_,hx,_⟩:=keyOf_str Tryz.underlying9 hv;exact ⟨x,hx⟩
theorem MapQ.size {w:World} {b n:Nat} {D:DataW Value} {cs:List (List UInt8×Rat)} {ks:List (List UInt8)} (h:MapQ w b n D cs) (hn:ks.Nodup) (hm:∀x,x∈ks↔jbF cs x=true):Maps.size D=ks.length:=by
 have hp:=(h.keys hn hm).length_eq;obtain ⟨es,hD,_⟩:=h.own.keysOf;subst hD;rw [hp];simp [strKeys,Maps.size]
theorem MapQ.put {w w':World} {b n:Nat} {D:DataW Value} {cs:List (List UInt8×Rat)} {y:List UInt8} {q:Rat} {v:Value} (h:MapQ w b n D cs) (ho:w'.ownsMap Tryz.prog 9 jfS b (n+1) (D.put (.string y) (.held v))) (hg:w.grownBy w' (some b))
  (hv:IsF w v (q+tot cs y)):MapQ w' b (n+1) (D.put (.string y) (.held v)) (cs++[(y,q)]):=by
 obtain ⟨es,cl,hb,_⟩:=h.own;have hM:IsMap D:=h.own.isMap;refine ⟨ho,fun x=> ?_,fun x hx=> ?_⟩
 ·rw [jdt];by_cases e:x=y
  ·subst e;rw [has_put_same (k:= .string x) hM (by simp [WideAt.IsKeyLit])];simp
  ·rw [has_put_other (by simpa using e),h.has];have:(y==x)=false:=by rw [beq_eq_false_iff_ne];exact fun h=>e h.symm
   rw [this,Bool.or_false]
 ·by_cases e:x=y
  ·subst e;refine ⟨v,fun z=>atKey_put_same (k:= .string x) hM (by simp [WideAt.IsKeyLit]) _ _, ?_⟩;rw [jdw,if_pos rfl];exact hv.turned (jcs.map hb) hg
  ·have e':¬y=x:=fun h=>e h.symm
   rw [jdt] at hx;have:(y==x)=false:=by rw [beq_eq_false_iff_ne];exact e'
   rw [this,Bool.or_false] at hx;obtain ⟨u,h1,h2⟩:=h.val x hx;refine ⟨u,fun z=>by rw [atKey_put_other (by simpa using e)];exact h1 z, ?_⟩;rw [jdw,if_neg e',Rat.zero_add];exact h2.turned (jcs.map hb) hg
section
variable {w:World} {ops:Array Oper} {rest:List Oper} {o:Oper} {a:Act} {Q:Exit→Act→World→Prop} {b n:Nat} {D:DataW Value} {cs:List (List UInt8×Rat)} {y:List UInt8}
theorem jgt {u v:Value} {ps:List MemPlace} (h:jfS u=some (.held v,ps)):u=v:=by
 simp [jfS] at h;exact h.1
theorem jjV {v:Value} (h:MapQ w b n D cs) (hy:y.length≤maxLen) (hh:jbF cs y=true) (hat:∀z,D.atKey (.string y) z= .held v) (hg:o.guard=none) (m x:Operand) (hop:o.op=Op.lookup 82 m x true) (hm:a.eval m= .map (some b)) (hx:a.eval x= .string ⟨y.toArray⟩)
  (hK:wpList Tryz.prog ops Q rest (a.put o.dst (.tuple #[v, .bool true])) w):wpList Tryz.prog ops Q (o::rest) a w:=
 wpList_lookup_own_ok w hg m x 82 hop 9 71 jcq Tryz.underlying82 jfS (jeI w) (.held jl9) [] rfl b n D hm h.own _ (.string y) hx (jj9 hy) (fun u ps hu=>by
  rw [hat] at hu;rw [jgt hu,h.has,hh]
  exact hK)
theorem jnf (h:MapQ w b n D cs) (hy:y.length≤maxLen) (hh:jbF cs y=false) (hg:o.guard=none) (m x:Operand) (hop:o.op=Op.lookup 82 m x true) (hm:a.eval m= .map (some b)) (hx:a.eval x= .string ⟨y.toArray⟩)
  (hK:wpList Tryz.prog ops Q rest (a.put o.dst (.tuple #[jl9, .bool false])) w):wpList Tryz.prog ops Q (o::rest) a w:=
 wpList_lookup_own_ok w hg m x 82 hop 9 71 jcq Tryz.underlying82 jfS (jeI w) (.held jl9) [] rfl b n D hm h.own _ (.string y) hx (jj9 hy) (fun u ps hu=>by
  rw [atKey_of_not_has (by rw [h.has,hh])] at hu;rw [jgt hu,h.has,hh]
  exact hK)
theorem jlw {v:Value} (h:MapQ w b n D cs) (hy:y.length≤maxLen) (hat:∀z,D.atKey (.string y) z= .held v) (m x:Operand) (hop:o.op=Op.lookup 82 m x false) (hm:a.eval m= .map (some b)) (hx:a.eval x= .string ⟨y.toArray⟩):
  (execOp a.eval o).run Tryz.prog w= .ok (.value v) w:=by
 obtain ⟨u,ps,hrun,hu⟩:=h.own.lookup jcq Tryz.underlying82 (jeI w) (zd:= .held jl9) (zp:=[]) rfl (jj9 hy);rw [hat] at hu;rw [jgt hu] at hrun;simp [execOp,hop,hm,hx,hrun,Result.andThen]
theorem jj5 {v:Value} {q:Rat} (h:MapQ w b n D cs) (hn:n < 1000000) (hy:y.length≤maxLen) (hv:IsF w v (q+tot cs y)) (hg:o.guard=none) (m x u:Operand) (hop:o.op=Op.mapUpdate 82 m x u) (hm:a.eval m= .map (some b)) (hx:a.eval x= .string ⟨y.toArray⟩) (hu:a.eval u=v)
  (hK:∀w' D',MapQ w' b (n+1) D' (cs++[(y,q)])→w.grownBy w' (some b)→wpList Tryz.prog ops Q rest (a.put o.dst undef) w'):wpList Tryz.prog ops Q (o::rest) a w:=
 wpList_mapUpdate_own w hg m x u 82 hop 9 71 jcq Tryz.underlying82 jfS b n D hm h.own (by unfold maxLen;omega) _ v (.string y) hx hu (jj9 hy) (.held v) [] rfl (fun w' h1 h2=>hK w' _ (h.put h1 h2 hv) h2)
end
end Go.Proofs.YteokfcjdfjhhhaaGreatDoor
namespace Go.Proofs.YteokfcjdfjhhhaaGreatDoor
open Go Go.RowKit Go.Maps Go.Sort

structure Ordered (ks:List (List UInt8)):Prop where
 nodup:ks.Nodup
 le:ks.Pairwise (fun a b=>a≤b)
theorem jm6 {ss ks:List (List UInt8)} (h:ss.Perm ks) (ho:Ordered ks):ss.mergeSort (fun x y=>decide (x≤y))=ks:=by
 have tr:∀a b c:List UInt8,leB a b=true→leB b c=true→leB a c=true:=fun a b c h1 h2=>by simp only [leB,decide_eq_true_eq] at*;exact List.le_trans h1 h2
 have tot2:∀a b:List UInt8,(leB a b || leB b a)=true:=fun a b=>by simp only [leB,Bool.or_eq_true,decide_eq_true_eq];exact List.le_total a b
 refine List.Perm.eq_of_pairwise (le:=fun a b=>leB a b=true) (fun a b _ _ h1 h2=> ?_) (List.pairwise_mergeSort tr tot2 ss) (ho.le.imp (fun h=>by simpa [leB] using h)) ((List.mergeSort_perm ss leB).trans h);simp only [leB,decide_eq_true_eq] at h1 h2;exact List.le_antisymm h1 h2
theorem jnQ {w:World} {base n:Nat} {v:Value} {ks:List (List UInt8)} (h:w.ownsRow base 9 1 v n (ks.map encStr)) (hl:ks.length=n) (h0:0 < n):∃g c,v= .slice (some ⟨g,0,none⟩) n c∧base≤g∧g < w.heap.size∧∀j,j < n→w.cell? ⟨g,j,none⟩=some (.string ⟨(ks.getD j []).toArray⟩):=by
 rcases h.2 with ⟨rfl,h1⟩|⟨g,cap,cur,rfl,hb,hg,hnc,hcm,hcs,ht⟩
 ·omega
 ·refine ⟨g,cap,rfl,hb,(Array.getElem?_eq_some_iff.1 hg).1,fun j hj=> ?_⟩;have hc:=World.ownsRow.cells h (g:=g) rfl;have hjl:j < ks.length:=by omega
  have:=hc j (encStr (ks.getD j [])) (by rw [List.getElem?_map,List.getElem?_eq_getElem hjl,List.getD_eq_getElem?_getD,List.getElem?_eq_getElem hjl];rfl);rw [jd5] at this;exact this
theorem jmH (b:Nat) (W:World):Calls Tryz.prog 42 #[.map (some b)] W fun e w'=>e= .returned (.func (.func 100) #[] #[.pointer (some ⟨W.heap.size,0,none⟩)])∧w'=W.alloc (.cells #[.map (some b)] 82):=
 callsIn_wide.1 (Tryz.maps_Keys_42 (some b) W)
theorem jiB {w:World} {b n:Nat} {D:DataW Value} {cs:List (List UInt8×Rat)} {ks:List (List UInt8)} (h:MapQ w b n D cs) (ho:Ordered ks) (hm:∀x,x∈ks↔jbF cs x=true) (h0:0 < ks.length) (hl:ks.length≤100000) {p:Nat} (hp:w.heap.size=p):
  Calls Tryz.prog 41 #[.func (.func 100) #[] #[.pointer (some ⟨p,0,none⟩)]] (w.alloc (.cells #[.map (some b)] 82)) fun e w'=>
   ∃g c,e= .returned (.slice (some ⟨g,0,none⟩) ks.length c)∧p < g∧g < w'.heap.size∧(∀j,j < ks.length→w'.cell? ⟨g,j,none⟩=some (.string ⟨(ks.getD j []).toArray⟩))∧Below (w.alloc (.cells #[.map (some b)] 82)).heap.size (w.alloc (.cells #[.map (some b)] 82)) w':=by
 subst hp;have hs:=h.size ho.nodup hm;refine (callsIn_wide.1 (Tryz.slices_Sorted_keys_41_42 b n D jfS w h.own (by rw [hs];unfold maxLen;omega) (by rw [hs];omega))).mono ?_
 rintro e w' ⟨v,ss,rfl,hp,hrow,_,hb⟩
 have hk:=hp.trans (h.keys ho.nodup hm).symm;have e1:=jm6 hk ho;have e2:=hk.length_eq;rw [e1,e2] at hrow;obtain ⟨g,c,rfl,h1,h2,hv⟩:=jnQ hrow rfl h0;exact ⟨g,c,rfl,by rw [World.size_alloc] at h1;omega,h2,hv,hb⟩
theorem jpq {w:World} {ops:Array Oper} {rest:List Oper} {o:Oper} {a:Act} {Q:Exit→Act→World→Prop} {b n:Nat} {D:DataW Value} {cs:List (List UInt8×Rat)} {ks:List (List UInt8)} (h:MapQ w b n D cs) (ho:Ordered ks) (hm:∀x,x∈ks↔jbF cs x=true)
  (hg:o.guard=none) (m:Operand) (hop:o.op=Op.call { callee:=Callee.builtin Builtin.len,args:= #[m],argTypes:= #[82] }) (he:a.eval m= .map (some b))
  (hK:wpList Tryz.prog ops Q rest (a.put o.dst (.int .i64 ks.length)) w):wpList Tryz.prog ops Q (o::rest) a w:=
 wpList_len_own w hg m 82 hop 9 71 Tryz.underlying82 jfS b n D he h.own (by rw [h.size ho.nodup hm];exact hK)
end Go.Proofs.YteokfcjdfjhhhaaGreatDoor
