/- Parts. -/
import Derived.Test.YtfagcpcikjlboaaGreatDoorIter
import Derived.Test.YtfagcpcikjlboaaGreatDoorMvG
import Derived.Maps.Own
import Derived.Maps.OwnSet
import Derived.Maps.Views
set_option linter.all false
set_option maxRecDepth 100000
set_option maxHeartbeats 8000000
namespace Go.Proofs.YtfagcpcikjlboaaGreatDoor
open Go Go.RowKit Go.Maps Go.Proofs.Tryz

abbrev jAV:Value:=fv 0 none 0 0 0 none 0 0
theorem jzt (w:World):(zeroValue 70).run prog w= .ok jAV w:=by kernel_rfl
theorem jyS:Keyed prog 9:=string_keyed underlying9
def jzl (v:Value):Option (DataW Value×List MemPlace):=some (.held v,[])
theorem jAw {x:List UInt8} (h:x.length≤maxLen):keyOf prog 9 (.string ⟨x.toArray⟩)=some (.string x):=
 WideMaps.keyOf_string_mk underlying9 (s:=⟨x.toArray⟩) (show x.toArray.size≤maxLen by rw [List.size_toArray];exact h)

def tot:List (List UInt8×Rat)→List UInt8→Rat
 | [],_=>0
 | p::r,x=>(if p.1=x then p.2 else 0)+tot r x
def jzj (cs:List (List UInt8×Rat)) (x:List UInt8):Bool:=cs.any (fun p=>p.1==x)
theorem jzP (y x:List UInt8) (q:Rat):∀cs:List (List UInt8×Rat),tot (cs++[(y,q)]) x=(if y=x then q else 0)+tot cs x
 | []=>by simp [tot]
 | p::r=>by
   rw [List.cons_append,tot,jzP y x q r,tot];rw [←Rat.add_assoc,←Rat.add_assoc,Rat.add_comm (if p.1=x then p.2 else 0)]
theorem jzU (y x:List UInt8) (q:Rat) (cs:List (List UInt8×Rat)):jzj (cs++[(y,q)]) x=(jzj cs x || y==x):=by simp [jzj]
theorem jzM {x:List UInt8}:∀{cs:List (List UInt8×Rat)},jzj cs x=false→tot cs x=0
 | [],_=>rfl
 | p::r,h=>by
   simp only [jzj,List.any_cons,Bool.or_eq_false_iff,beq_eq_false_iff_ne] at h;rw [tot,if_neg h.1,jzM (cs:=r) h.2,Rat.zero_add]

def jhw (w:World) (b:Nat):Prop:=∀o z,w.cell? ⟨b,o,none⟩≠some (.int .u64 z)
theorem jhw.map {w:World} {b:Nat} {es:Array MapEntry} {cl:Nat} (hb:w.heap[b]? =some (.map es cl)):jhw w b:=fun o z h=>by simp [World.cell?,hb] at h
theorem Wd.turned {w w':World} {A:Option Addr} {n b:Nat} {ds:List Nat} (h:Wd w A n ds) (hb:jhw w b) (hg:w.grownBy w' (some b)):Wd w' A n ds:=
 ⟨h.len,h.dig,h.big,fun hn=>by
   obtain ⟨b',o,e,hl,hc⟩:=h.at_ hn
   have hne:b'≠b:=by
    rintro rfl
    exact hb _ _ (hc 0 hn)
   exact ⟨b',o,e,Nat.lt_of_lt_of_le hl hg.size,fun j hj=>hg.cell (hc j hj) (by simpa using hne)⟩⟩
theorem Rep.turned {w w':World} {s z:Int} {A:Option Addr} {n c b:Nat} (h:Rep w s A n c z) (hb:jhw w b) (hg:w.grownBy w' (some b)):Rep w' s A n c z:=by
 cases h with
 | small _ h0 h1=>exact .small _ h0 h1
 | plus _ _ _ ds h=>exact .plus _ _ _ ds ⟨h.wd.turned hb hg,h.trim,h.cap,h.lim,h.big⟩
 | minus _ _ _ ds h=>exact .minus _ _ _ ds ⟨h.wd.turned hb hg,h.trim,h.cap,h.lim,h.big⟩
theorem RepF.turned {w w':World} {s t:Int} {A B:Option Addr} {n c m d b:Nat} {x:Rat} (h:RepF w s A n c t B m d x) (hb:jhw w b) (hg:w.grownBy w' (some b)):RepF w' s A n c t B m d x:=⟨h.num.turned hb hg,h.den.turned hb hg⟩
theorem jyT {w w':World} {row:Option Nat} {b o:Nat} (hg:w.grownBy w' row) (hb:b < w.heap.size) (hne:some b≠row):w'.frozen? ⟨b,o,none⟩=w.frozen? ⟨b,o,none⟩:=by
 simp only [World.frozen?,hg.block b hb hne]
theorem jyK {w:World} {b o:Nat} (v:Value):w.grownBy (w.setCell ⟨b,o,none⟩ v) (some b):=
 ⟨rfl,rfl,rfl,by simp [World.setCell],fun k _ hk=>by
   have hk':b≠k:=fun e=>hk (by rw [e])
   simp [World.setCell,Array.getElem?_modify,hk']⟩
theorem jB0 {v w w':World} {b:Nat} {row:Option Nat} (h:v.grownBy w (some b)) (hg:w.grownBy w' row) (hr:∀g,row=some g→v.heap.size≤g):v.grownBy w' (some b):=
 ⟨hg.os.trans h.os,hg.tape.trans h.tape,hg.output.trans h.output,Nat.le_trans h.size hg.size,fun k hk hb=>(hg.block k (Nat.lt_of_lt_of_le hk h.size) (fun e=>by have:=hr k e.symm;omega)).trans (h.block k hk hb)⟩

def IsF (w:World) (v:Value) (x:Rat):Prop:=∃s A n c t B m d,v=fv s A n c t B m d∧RepF w s A n c t B m d x
theorem IsF.below {w w':World} {v:Value} {x:Rat} (h:IsF w v x) (hb:Below w.heap.size w w'):IsF w' v x:=by
 obtain ⟨s,A,n,c,t,B,m,d,e,h⟩:=h;exact ⟨s,A,n,c,t,B,m,d,e,h.below hb⟩
theorem IsF.turned {w w':World} {v:Value} {x:Rat} {b:Nat} (h:IsF w v x) (hb:jhw w b) (hg:w.grownBy w' (some b)):IsF w' v x:=by
 obtain ⟨s,A,n,c,t,B,m,d,e,h⟩:=h;exact ⟨s,A,n,c,t,B,m,d,e,h.turned hb hg⟩
structure MapQ (w:World) (b n:Nat) (D:DataW Value) (cs:List (List UInt8×Rat)):Prop where
 own:w.ownsMap prog 9 jzl b n D
 has:∀x,Maps.has D (.string x)=jzj cs x
 val:∀x,jzj cs x=true→∃v,(∀z,D.atKey (.string x) z= .held v)∧IsF w v (tot cs x)
theorem MapQ.made (w:World):MapQ (w.alloc (.map #[] 0)) w.heap.size 0 (.map []) []:=
 ⟨World.ownsMap_made _ _ _ _,fun x=>rfl,fun x h=>by simp [jzj] at h⟩
theorem MapQ.below {w w':World} {b n:Nat} {D:DataW Value} {cs:List (List UInt8×Rat)} (h:MapQ w b n D cs) (hb:Below w.heap.size w w'):MapQ w' b n D cs:=
 ⟨h.own.kept (row:=none) ⟨hb.os,hb.tape,hb.output,hb.size,fun k hk _=>hb.block k hk⟩ (by simp),h.has,fun x hx=>by
   obtain ⟨v,h1,h2⟩:=h.val x hx
   exact ⟨v,h1,h2.below hb⟩⟩
theorem MapQ.grown {w w':World} {b g n:Nat} {D:DataW Value} {cs:List (List UInt8×Rat)} (h:MapQ w b n D cs) (hN:jhw w g) (hbg:b≠g) (hg:w.grownBy w' (some g)):MapQ w' b n D cs:=
 ⟨h.own.kept hg (by simpa using hbg),h.has,fun x hx=>by
   obtain ⟨v,h1,h2⟩:=h.val x hx
   exact ⟨v,h1,h2.turned hN hg⟩⟩
theorem MapQ.lt {w:World} {b n:Nat} {D:DataW Value} {cs:List (List UInt8×Rat)} (h:MapQ w b n D cs):b < w.heap.size:=h.own.lt
theorem MapQ.keys {w:World} {b n:Nat} {D:DataW Value} {cs:List (List UInt8×Rat)} {ks:List (List UInt8)} (h:MapQ w b n D cs) (hn:ks.Nodup) (hm:∀x,x∈ks↔jzj cs x=true):ks.Perm (strKeys D):=by
 obtain ⟨es,hD,hk⟩:=h.own.keysOf;have ht:=h.own.tidy jyS;obtain ⟨es',hD',hp⟩:=ht;rw [hD] at hD';cases hD'
 subst hD;refine perm_strKeys hp (fun p hp=> ?_) hn (fun x=>by rw [hm x,←h.has x]);obtain ⟨v,hv⟩:=hk p hp;obtain ⟨x,_,hx,_⟩:=keyOf_str underlying9 hv;exact ⟨x,hx⟩
theorem MapQ.size {w:World} {b n:Nat} {D:DataW Value} {cs:List (List UInt8×Rat)} {ks:List (List UInt8)} (h:MapQ w b n D cs) (hn:ks.Nodup) (hm:∀x,x∈ks↔jzj cs x=true):Maps.size D=ks.length:=by
 have hp:=(h.keys hn hm).length_eq;obtain ⟨es,hD,_⟩:=h.own.keysOf;subst hD;rw [hp];simp [strKeys,Maps.size]
theorem MapQ.put {w w':World} {b n:Nat} {D:DataW Value} {cs:List (List UInt8×Rat)} {y:List UInt8} {q:Rat} {v:Value} (h:MapQ w b n D cs) (ho:w'.ownsMap prog 9 jzl b (n+1) (D.put (.string y) (.held v))) (hg:w.grownBy w' (some b))
  (hv:IsF w v (q+tot cs y)):MapQ w' b (n+1) (D.put (.string y) (.held v)) (cs++[(y,q)]):=by
 obtain ⟨es,cl,hb,_⟩:=h.own;have hM:IsMap D:=h.own.isMap;refine ⟨ho,fun x=> ?_,fun x hx=> ?_⟩
 ·rw [jzU];by_cases e:x=y
  ·subst e;rw [has_put_same (k:= .string x) hM (by simp [WideAt.IsKeyLit])];simp
  ·rw [has_put_other (by simpa using e),h.has];have:(y==x)=false:=by rw [beq_eq_false_iff_ne];exact fun h=>e h.symm
   rw [this,Bool.or_false]
 ·by_cases e:x=y
  ·subst e;refine ⟨v,fun z=>atKey_put_same (k:= .string x) hM (by simp [WideAt.IsKeyLit]) _ _, ?_⟩;rw [jzP,if_pos rfl];exact hv.turned (jhw.map hb) hg
  ·have e':¬y=x:=fun h=>e h.symm
   rw [jzU] at hx;have:(y==x)=false:=by rw [beq_eq_false_iff_ne];exact e'
   rw [this,Bool.or_false] at hx;obtain ⟨u,h1,h2⟩:=h.val x hx;refine ⟨u,fun z=>by rw [atKey_put_other (by simpa using e)];exact h1 z, ?_⟩;rw [jzP,if_neg e',Rat.zero_add];exact h2.turned (jhw.map hb) hg
section
variable {w:World} {ops:Array Oper} {rest:List Oper} {o:Oper} {a:Act} {Q:Exit→Act→World→Prop} {b n:Nat} {D:DataW Value} {cs:List (List UInt8×Rat)} {y:List UInt8}
theorem jzO {u v:Value} {ps:List MemPlace} (h:jzl u=some (.held v,ps)):u=v:=by
 simp [jzl] at h;exact h.1
theorem jzF {v:Value} (h:MapQ w b n D cs) (hy:y.length≤maxLen) (hh:jzj cs y=true) (hat:∀z,D.atKey (.string y) z= .held v) (hg:o.guard=none) (m x:Operand) (hop:o.op=Op.lookup 114 m x true) (hm:a.eval m= .map (some b)) (hx:a.eval x= .string ⟨y.toArray⟩)
  (hK:wpList prog ops Q rest (a.put o.dst (.tuple #[v, .bool true])) w):wpList prog ops Q (o::rest) a w:=
 wpList_lookup_own_ok w hg m x 114 hop 9 70 jyS underlying114 jzl (jzt w) (.held jAV) [] rfl b n D hm h.own _ (.string y) hx (jAw hy) (fun u ps hu=>by
  rw [hat] at hu;rw [jzO hu,h.has,hh]
  exact hK)
theorem jAC (h:MapQ w b n D cs) (hy:y.length≤maxLen) (hh:jzj cs y=false) (hg:o.guard=none) (m x:Operand) (hop:o.op=Op.lookup 114 m x true) (hm:a.eval m= .map (some b)) (hx:a.eval x= .string ⟨y.toArray⟩)
  (hK:wpList prog ops Q rest (a.put o.dst (.tuple #[jAV, .bool false])) w):wpList prog ops Q (o::rest) a w:=
 wpList_lookup_own_ok w hg m x 114 hop 9 70 jyS underlying114 jzl (jzt w) (.held jAV) [] rfl b n D hm h.own _ (.string y) hx (jAw hy) (fun u ps hu=>by
  rw [atKey_of_not_has (by rw [h.has,hh])] at hu;rw [jzO hu,h.has,hh]
  exact hK)
theorem jBg {v:Value} (h:MapQ w b n D cs) (hy:y.length≤maxLen) (hat:∀z,D.atKey (.string y) z= .held v) (m x:Operand) (hop:o.op=Op.lookup 114 m x false) (hm:a.eval m= .map (some b)) (hx:a.eval x= .string ⟨y.toArray⟩):
  (execOp a.eval o).run prog w= .ok (.value v) w:=by
 obtain ⟨u,ps,hrun,hu⟩:=h.own.lookup jyS underlying114 (jzt w) (zd:= .held jAV) (zp:=[]) rfl (jAw hy);rw [hat] at hu;rw [jzO hu] at hrun;simp [execOp,hop,hm,hx,hrun,Result.andThen]
theorem jzq {v:Value} {q:Rat} (h:MapQ w b n D cs) (hn:n < 1000000) (hy:y.length≤maxLen) (hv:IsF w v (q+tot cs y)) (hg:o.guard=none) (m x u:Operand) (hop:o.op=Op.mapUpdate 114 m x u) (hm:a.eval m= .map (some b)) (hx:a.eval x= .string ⟨y.toArray⟩) (hu:a.eval u=v)
  (hK:∀w' D',MapQ w' b (n+1) D' (cs++[(y,q)])→w.grownBy w' (some b)→wpList prog ops Q rest (a.put o.dst undef) w'):wpList prog ops Q (o::rest) a w:=
 wpList_mapUpdate_own w hg m x u 114 hop 9 70 jyS underlying114 jzl b n D hm h.own (by unfold maxLen;omega) _ v (.string y) hx hu (jAw hy) (.held v) [] rfl (fun w' h1 h2=>hK w' _ (h.put h1 h2 hv) h2)
end
end Go.Proofs.YtfagcpcikjlboaaGreatDoor
namespace Go.Proofs.YtfagcpcikjlboaaGreatDoor
open Go Go.RowKit Go.Maps Go.Sort Go.Proofs.Tryz

structure Ordered (ks:List (List UInt8)):Prop where
 nodup:ks.Nodup
 le:ks.Pairwise (fun a b=>a≤b)
theorem jAb {ss ks:List (List UInt8)} (h:ss.Perm ks) (ho:Ordered ks):ss.mergeSort (fun x y=>decide (x≤y))=ks:=by
 have tr:∀a b c:List UInt8,leB a b=true→leB b c=true→leB a c=true:=fun a b c h1 h2=>by simp only [leB,decide_eq_true_eq] at*;exact List.le_trans h1 h2
 have tot2:∀a b:List UInt8,(leB a b || leB b a)=true:=fun a b=>by simp only [leB,Bool.or_eq_true,decide_eq_true_eq];exact List.le_total a b
 refine List.Perm.eq_of_pairwise (le:=fun a b=>leB a b=true) (fun a b _ _ h1 h2=> ?_) (List.pairwise_mergeSort tr tot2 ss) (ho.le.imp (fun h=>by simpa [leB] using h)) ((List.mergeSort_perm ss leB).trans h);simp only [leB,decide_eq_true_eq] at h1 h2;exact List.le_antisymm h1 h2
theorem jBz {w:World} {base n:Nat} {v:Value} {ks:List (List UInt8)} (h:w.ownsRow base 9 1 v n (ks.map encStr)) (hl:ks.length=n) (h0:0 < n):∃g c,v= .slice (some ⟨g,0,none⟩) n c∧base≤g∧g < w.heap.size∧∀j,j < n→w.cell? ⟨g,j,none⟩=some (.string ⟨(ks.getD j []).toArray⟩):=by
 rcases h.2 with ⟨rfl,h1⟩|⟨g,cap,cur,rfl,hb,hg,hnc,hcm,hcs,ht⟩
 ·omega
 ·refine ⟨g,cap,rfl,hb,(Array.getElem?_eq_some_iff.1 hg).1,fun j hj=> ?_⟩;have hc:=World.ownsRow.cells h (g:=g) rfl;have hjl:j < ks.length:=by omega
  have:=hc j (encStr (ks.getD j [])) (by rw [List.getElem?_map,List.getElem?_eq_getElem hjl,List.getD_eq_getElem?_getD,List.getElem?_eq_getElem hjl];rfl);rw [jdP] at this;exact this
theorem jB3 (b:Nat) (W:World):Calls prog 155 #[.map (some b)] W fun e w'=>e= .returned (.func (.func 190) #[] #[.pointer (some ⟨W.heap.size,0,none⟩)])∧w'=W.alloc (.cells #[.map (some b)] 114):=
 callsIn_wide.1 (Tryz.maps_Keys_155 (some b) W)
theorem jAg {w:World} {b n:Nat} {D:DataW Value} {cs:List (List UInt8×Rat)} {ks:List (List UInt8)} (h:MapQ w b n D cs) (ho:Ordered ks) (hm:∀x,x∈ks↔jzj cs x=true) (h0:0 < ks.length) (hl:ks.length≤100000) {p:Nat} (hp:w.heap.size=p):
  Calls prog 154 #[.func (.func 190) #[] #[.pointer (some ⟨p,0,none⟩)]] (w.alloc (.cells #[.map (some b)] 114)) fun e w'=>
   ∃g c,e= .returned (.slice (some ⟨g,0,none⟩) ks.length c)∧p < g∧g < w'.heap.size∧(∀j,j < ks.length→w'.cell? ⟨g,j,none⟩=some (.string ⟨(ks.getD j []).toArray⟩))∧Below (w.alloc (.cells #[.map (some b)] 114)).heap.size (w.alloc (.cells #[.map (some b)] 114)) w':=by
 subst hp;have hs:=h.size ho.nodup hm;refine (callsIn_wide.1 (Tryz.slices_Sorted_keys_154_155 b n D jzl w h.own (by rw [hs];unfold maxLen;omega) (by rw [hs];omega))).mono ?_
 rintro e w' ⟨v,ss,rfl,hp,hrow,_,hb⟩
 have hk:=hp.trans (h.keys ho.nodup hm).symm;have e1:=jAb hk ho;have e2:=hk.length_eq;rw [e1,e2] at hrow;obtain ⟨g,c,rfl,h1,h2,hv⟩:=jBz hrow rfl h0;exact ⟨g,c,rfl,by rw [World.size_alloc] at h1;omega,h2,hv,hb⟩
theorem jBP {w:World} {ops:Array Oper} {rest:List Oper} {o:Oper} {a:Act} {Q:Exit→Act→World→Prop} {b n:Nat} {D:DataW Value} {cs:List (List UInt8×Rat)} {ks:List (List UInt8)} (h:MapQ w b n D cs) (ho:Ordered ks) (hm:∀x,x∈ks↔jzj cs x=true)
  (hg:o.guard=none) (m:Operand) (hop:o.op=Op.call { callee:=Callee.builtin Builtin.len,args:= #[m],argTypes:= #[114] }) (he:a.eval m= .map (some b))
  (hK:wpList prog ops Q rest (a.put o.dst (.int .i64 ks.length)) w):wpList prog ops Q (o::rest) a w:=
 wpList_len_own w hg m 114 hop 9 70 underlying114 jzl b n D he h.own (by rw [h.size ho.nodup hm];exact hK)
end Go.Proofs.YtfagcpcikjlboaaGreatDoor
namespace Go.Proofs.YtfagcpcikjlboaaGreatDoor
open Go Go.RowKit Go.Proofs.Tryz

noncomputable def jyP (m:Int) (ps:List (List UInt8×List UInt8)):List (List UInt8×Rat):=ps.map fun s=>(s.1,numQ s.2*((m:Int):Rat))
noncomputable def jyI (ls:List Lay):List (List UInt8×Rat):=ls.flatMap fun x=>jyP x.mass x.shares
theorem jzQ {α:Type} {l:List α} {i:Nat} {d r:α} (h:i < l.length) (hr:l.getD i d=r):l.take (i+1)=l.take i++[r]:=by
 rw [List.take_add_one,List.getElem?_eq_getElem h];rw [List.getD_eq_getElem?_getD,List.getElem?_eq_getElem h] at hr;simp at hr;simp [hr]
theorem jAJ {ls:List Lay} {i:Nat} {x:Lay} (h:i < ls.length) (hx:ls.getD i jyM=x):jyI (ls.take i)++jyP x.mass x.shares=jyI (ls.take (i+1)):=by
 rw [jzQ h hx];simp [jyI]
theorem jAo {ps:List (List UInt8×List UInt8)} {m:Int} {k:Nat} {p:List UInt8×List UInt8} (h:k < ps.length) (hp:ps.getD k ([],[])=p):jyP m (ps.take k)++[(p.1,numQ p.2*((m:Int):Rat))]=jyP m (ps.take (k+1)):=by
 rw [jzQ h hp];simp [jyP]
theorem jzm (m:Int) (ps:List (List UInt8×List UInt8)):(jyP m ps).length=ps.length:=by simp [jyP]
theorem jzf:∀{ls:List Lay},(∀x∈ls,x.shares.length≤64)→(jyI ls).length≤64*ls.length
 | [],_=>by simp [jyI]
 | x::r,h=>by
   have h1:=jzf (ls:=r) (fun y hy=>h y (List.mem_cons_of_mem _ hy));have h2:=h x (List.mem_cons_self ..);rw [show jyI (x::r)=jyP x.mass x.shares++jyI r from by simp [jyI],List.length_append,jzm,List.length_cons];omega
theorem jB5 (q:Nat):Sz q 0:=by
 have:Sz 0 ((0:Int):Rat):=Sz.int (by simp);exact Sz.mono (by simpa using this) (Nat.zero_le q)
theorem jBQ {q:Nat} (x:List UInt8):∀{cs:List (List UInt8×Rat)},(∀c∈cs,Sz q c.2)→Sz (cs.length*(q+1)+1) (tot cs x)
 | [],_=>by rw [tot];exact jB5 _
 | p::r,h=>by
   rw [tot];have h1:=jBQ x (cs:=r) (fun c hc=>h c (List.mem_cons_of_mem _ hc))
   have h2:Sz q (if p.1=x then p.2 else 0):=by
    split
    ·exact h p (List.mem_cons_self ..)
    ·exact jB5 _
   exact (h2.add h1).mono (by rw [List.length_cons,Nat.add_mul];omega)
theorem jAz:∀{l:List (List UInt8×List UInt8)} {s:Rat} {p:Option (List UInt8)},jBN s p l=0→∀x∈l,jyU x.1=true∧chk x.2=0∧0 < numQ x.2
 | [],_,_,_=>fun x hx=>by simp at hx
 | y::r,s,p,h=>fun x hx=>by
   rw [jBN] at h;split at h
   ·omega
   ·rename_i h1
    split at h
    ·omega
    ·split at h
     ·omega
     ·rename_i h3
      split at h
      ·omega
      ·rename_i h4
       rcases List.mem_cons.1 hx with rfl|hx
       ·exact ⟨by simpa using h1,by simpa using h3,Rat.not_le.1 h4⟩
       ·exact jAz h x hx
theorem jyQ {l:List (List UInt8×List UInt8)} (h:jyV l=0):(0 < l.length∧l.length≤64)∧∀x∈l,jyU x.1=true∧chk x.2=0∧0 < numQ x.2:=by
 unfold jyV at h;split at h
 ·omega
 ·split at h
  ·omega
  ·exact ⟨by omega,jAz h⟩
theorem jyL {x:Lay} (h:jyR x=0):jyU x.grain=true∧1≤x.mass∧x.mass≤999999999∧jyV x.shares=0:=by
 unfold jyR at h;split at h
 ·omega
 ·rename_i h1
  split at h
  ·omega
  ·rename_i h2
   exact ⟨by simpa using h1,by omega,by omega,h⟩
theorem jyJ {α:Type} {f:α→Int}:∀{l:List α},jar f l=0→∀x∈l,f x=0
 | [],_=>fun x hx=>by simp at hx
 | y::r,h=>fun x hx=>by
   by_cases h0:f y=0
   ·rw [jf3 h0] at h;rcases List.mem_cons.1 hx with rfl|hx
    ·exact h0
    ·exact jyJ h x hx
   ·rw [jed h0] at h;exact absurd h h0
def jAT (g:List UInt8) (s:Int):List Lay→Int×Int
 | []=>if 999999999 < s then (0,4) else (s,0)
 | x::r=>if x.grain=g then jAT g (s+x.mass) r else (0,16)
theorem jB2 {g:List UInt8}:∀{l:List Lay} {s m:Int},(∀x∈l,1≤x.mass)→jAT g s l=(m,0)→s+l.length≤m∧m≤999999999
 | [],s,m,_,h=>by
   unfold jAT at h;split at h
   ·simp at h
   ·simp at h;simp;omega
 | x::r,s,m,hx,h=>by
   unfold jAT at h;split at h
   ·have h1:=jB2 (fun y hy=>hx y (List.mem_cons_of_mem _ hy)) h;have h2:=hx x (List.mem_cons_self ..);rw [List.length_cons];omega
   ·simp at h
def jzD:List Lay→Int
 | []=>0
 | x::r=>x.mass+jzD r
theorem jA5 (x:Lay):∀l:List Lay,jzD (l++[x])=jzD l+x.mass
 | []=>by simp [jzD]
 | y::r=>by rw [List.cons_append,jzD,jA5 x r,jzD];omega

section
variable {w:World} {A:Option Addr} {n c:Nat} {ls:List Lay}
theorem jBU {R:Int×Int} (hE:Env w) (hv:Lv w A n ls) (h0:0 < n) (hn:n≤64) (hi:∀x∈ls,LayIn x) (hk:jar jyR ls=0) (hR:jAT (ls.getD 0 jyM).grain 0 ls=R):
  Calls prog 153 #[.slice A n c] w fun e w'=>e= .returned (.tuple #[.int .i64 R.1, .int .i64 R.2])∧Below w.heap.size w w':=by
 have q0:((n:Int)==0)=false:=by rw [beq_eq_false_iff_ne];omega
 have q1:decide ((64:Int) < (n:Int))=false:=by rw [decide_eq_false_iff_not];omega
 have HMS:Hd (∀i,i < n→1≤(ls.getD i jyM).mass∧(ls.getD i jyM).mass≤999999999):=qh (fun i hi=>by
  have hil:i < ls.length:=by rw [hv.len];exact hi
  have:=jyL (jyJ hk (ls.getD i jyM) (by rw [List.getD_eq_getElem?_getD,List.getElem?_eq_getElem hil];exact List.getElem_mem hil))
  exact ⟨this.2.1,this.2.2.1⟩)
 have HE:=qh hE;have HV:=qh hv;have HN:=qh hn;have HI:=qh hi;have HK:=qh hk;have H0:=qh h0;obtain ⟨g,hg⟩:∃g,(ls.getD 0 jyM).grain=g:=⟨_,rfl⟩;rw [hg] at hR;have HG:=qh hg;have HR:=qh hR;clear hE hv h0 hn hi hk hg hR;go_enter func153,ntmps153;go_wp2_with (go_at_call 187;(with_reducible refine mo0 (jAm HK.o (HE.o.below bi) (HV.o.below bi) (by have:=HN.o;omega) HI.o) fun w1 hb1 hc1 hf1 _=> ?_))
 go_loopw [5,21] (fun v u wr=>∃(i:Nat) (s:Int),v= .int .i64 s∧u= .int .i64 (i:Int)∧Below w.heap.size w wr∧i≤n∧0≤s∧s≤i*999999999∧jAT g s (ls.drop i)=R) (fun _ u _=>n - (intOf u).toNat)
 case atStart=>exact ⟨0,0,rfl,rfl,bi,by omega,by omega,by omega,HR.o⟩
 case round=>
  obtain ⟨i,s,rfl,rfl,hb,hin,hs0,hs1,hc⟩:=hrel;have _:=bm hb;have hnn:=HN.o;by_cases hi:i < n
  ·have p0:decide ((i:Int) < (n:Int))=true:=by simp;exact hi
   obtain ⟨hm0,hm1⟩:=HMS.o i hi;obtain ⟨b,o,rfl,hbl,hat⟩:=(HV.o.below hb).at_ H0.o;obtain ⟨B,d,k0,k1,k2,_⟩:=(hat i hi).at_;obtain ⟨B',d',j0,j1,j2,_⟩:=(hat 0 H0.o).at_;rw [HG.o] at j0;have hil:i < ls.length:=by rw [HV.o.len];exact hi
   rw [jd5 (d:=jyM) hil,jAT] at hc;obtain ⟨⟨x1,x2,x3⟩,hx⟩:∃x,ls.getD i jyM=x:=⟨_,rfl⟩;rw [hx] at k0 k1 k2 hm0 hm1 hc;dsimp only at k0 k1 k2 hm0 hm1 hc;have HI2:=qh hi;obtain ⟨l3,hl3⟩:∃l,x3.length=l:=⟨_,rfl⟩;rw [hl3] at k2;clear hat hx hil hl3;rw [Nat.zero_mul,Nat.add_zero] at j0;by_cases hg:x1=g
   ·rw [if_pos hg] at hc;have HC:=qh hc;subst hg;clear hc hi;go_upto_region 12 with (fail)
    go_quiet (fail)
    go_wp2;exact ⟨⟨i+1,s+x2,by simp,by simp,bi,HI2.o,by omega,by push_cast;omega,HC.o⟩,by have:=HI2.o;simp [intOf];omega⟩
   ·rw [if_neg hg] at hc;subst hc;have hg':¬g=x1:=fun h=>hg h.symm
    have q5:(x1==g)=false:=by rw [beq_eq_false_iff_ne];exact hg
    clear hi HR;go_upto_region 12 with (fail)
    go_quiet (fail)
    go_wp2;go_ret2;exact ⟨rfl,bi⟩
  ·have p0:decide (i < n)=false:=by simp;omega
   rw [List.drop_eq_nil_of_le (by rw [HV.o.len];omega),jAT] at hc;by_cases h4:999999999 < s
   ·rw [if_pos h4] at hc;subst hc;have q2:decide (999999999 < s)=true:=by simpa using h4
    clear h4 hi HR;go_wp2;go_ret2;exact ⟨rfl,bi⟩
   ·rw [if_neg h4] at hc;subst hc;have q2:decide (999999999 < s)=false:=by simpa using h4
    clear h4 hi HR;go_wp2;go_ret2;exact ⟨rfl,bi⟩
end
end Go.Proofs.YtfagcpcikjlboaaGreatDoor
