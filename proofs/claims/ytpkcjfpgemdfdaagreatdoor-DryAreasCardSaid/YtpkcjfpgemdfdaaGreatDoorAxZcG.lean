/- Parts. -/
import Derived.Test.YtpkcjfpgemdfdaaGreatDoorAxQG
import Derived.Tactics
set_option linter.all false
set_option maxRecDepth 100000
set_option maxHeartbeats 8000000
namespace Go.Proofs.YtpkcjfpgemdfdaaGreatDoor.Ax
open Go Go.RowKit
set_option linter.unusedSimpArgs false
set_option linter.unusedVariables false
section
variable {P:Program} {w:World} {ι:Emb} {o:Oper} {tm:Tm} {h h':Hp} {v:AV}
theorem jqb {op:BinOp} {t u:TypeId} {x y:Operand} (hop:o.op= .binOp op t x y u) (e:juY op t x y u P tm h= .val v h'):OpOk P o tm h h' v [] []:=by
 refine jrn hop e ?_;have e':(bif gOk P t x y (opd tm x) then okv h (jkO P op t (opd tm x) (opd tm y)) else .bad)= .val v h':=e;cases hg:gOk P t x y (opd tm x) with
 | false=>rw [hg] at e';cases e'
 | true=>rw [hg] at e';exact jnM e'
theorem jqH (e:aop o.op P tm h= .val v h'):∃rd wr,jr0 tm o.op=(.ids rd, .ids wr)∧OpOk P o tm h h' v rd wr∧(∀id∈wr,id∈rd):=by
 have nil:∀{p:OpOk P o tm h h' v [] []},jr0 tm o.op=(.ids [], .ids [])→∃rd wr,jr0 tm o.op=(.ids rd, .ids wr)∧OpOk P o tm h h' v rd wr∧(∀id∈wr,id∈rd):=
  fun {p} hf=>⟨[],[],hf,p,fun _ h=>h⟩
 cases hop:o.op with
 | move x=>rw [hop] at e nil;exact nil (p:=jkq (.inl hop) e) rfl
 | assign x=>rw [hop] at e nil;exact nil (p:=jkq (.inr hop) e) rfl
 | pick c a b=>rw [hop] at e nil;exact nil (p:=jq7 hop e) rfl
 | alloc t=>rw [hop] at e nil;exact nil (p:=jms hop e) rfl
 | box t x=>rw [hop] at e nil;exact nil (p:=jsv hop e) rfl
 | build t ps=>rw [hop] at e nil;exact nil (p:=jo0 hop e) rfl
 | buildSlice t n ps=>rw [hop] at e nil;exact nil (p:=jfq hop e) rfl
 | load t x=>rw [hop] at e;exact ⟨_,_,rfl,joB hop e,fun _ h=>by cases h⟩
 | store t x y=>rw [hop] at e;exact ⟨_,_,rfl,jnf hop e,fun _ h=>h⟩
 | nilCheck x=>rw [hop] at e nil;exact nil (p:=jsE hop e) rfl
 | binOp op t x y u=>rw [hop] at e nil;exact nil (p:=jqb hop e) rfl
 | unOp op t x=>rw [hop] at e nil;exact nil (p:=juA hop e) rfl
 | convert s d x=>rw [hop] at e;exact ⟨_,_,rfl,joR hop e,fun _ h=>by cases h⟩
 | makeFunc f a b=>rw [hop] at e nil;exact nil (p:=jqj hop e) rfl
 | makeSlice t a b=>rw [hop] at e nil;exact nil (p:=jgB hop e) rfl
 | slice t x a b c=>rw [hop] at e nil;exact nil (p:=jnB hop e) rfl
 | fieldAddr t x i=>rw [hop] at e nil;exact nil (p:=jgS hop e) rfl
 | field t x i=>rw [hop] at e nil;exact nil (p:=jmF hop e) rfl
 | indexAddr t x i=>rw [hop] at e nil;exact nil (p:=jgM hop e) rfl
 | index t x i=>rw [hop] at e nil;exact nil (p:=jmh hop e) rfl
 | extract x i=>rw [hop] at e nil;exact nil (p:=jiE hop e) rfl
 | call c=>
   rw [hop] at e nil;have e1:jnJ c P tm h= .val v h':=e;unfold jnJ at e1;split at e1
   ·rename_i f hf
    unfold callee at e1;split at e1 <;> cases e1
   ·rename_i b hb
    have hfoot:jr0 tm (.call c)=ju5 b (jgD (opd tm) c.args.toList):=by simp only [jr0,hb]
    rw [hfoot];unfold bi at e1;split at e1
    ·split at e1
     ·rename_i x ha
      split at e1
      ·rename_i t ts ht
       exact ⟨[],[],rfl,jsr hop hb ha ht e1,fun _ h=>h⟩
      ·cases e1
     ·cases e1
    ·split at e1
     ·rename_i s x ha
      split at e1
      ·rename_i t u ht
       rw [ha];exact ⟨_,_,rfl,jl1 hop hb ha ht e1,fun id hid=>List.mem_append.2 (.inl hid)⟩
      ·cases e1
     ·cases e1
    ·split at e1
     ·rename_i d s ha
      split at e1
      ·rename_i t u ht
       rw [ha];exact ⟨_,_,rfl,joU hop hb ha ht e1,fun id hid=>List.mem_append.2 (.inl hid)⟩
      ·cases e1
     ·cases e1
    ·exact ⟨[],[],rfl,jqu (b:=false) rfl hop hb e1,fun _ h=>h⟩
    ·exact ⟨[],[],rfl,jqu (b:=true) rfl hop hb e1,fun _ h=>h⟩
    ·cases e1
   ·cases e1
 | _=>rw [hop] at e;cases e
theorem jhd {f:Nat} {args:List AV} (e:aop o.op P tm h= .enter f args) (hfn:js5 o.op=true):jr0 tm o.op=(.all, .all)∧∀(ι:Emb) (a:Act),Opr ι tm a o→∃vals:List Value,VRs ι args vals∧∀w,(execOp a.eval o).run P w=(callFunc f vals.toArray).run P w:=by
 unfold js5 at hfn;split at hfn
 ·rename_i c hop
  split at hfn
  ·rename_i fo hf
   rw [hop] at e ⊢;have e1:jnJ c P tm h= .enter f args:=e;unfold jnJ at e1;rw [hf] at e1;simp only at e1;unfold callee at e1;split at e1
   ·rename_i g caps hp
    injection e1 with h1 h2
    subst h1;refine ⟨by simp only [jr0,hf],fun ι a ho=> ?_⟩;have hfo:=ho fo (by simp [hop,Op.operands,Call.operands,hf]);rw [hp] at hfo;obtain ⟨cs,hv,hcs⟩:=VR.fn.1 hfo;have hargs:=jjC (ι:=ι) (tm:=tm) (a:=a) (xs:=c.args.toList) (fun x hx=>ho x (by simp [hop,Op.operands,Call.operands,hf];exact .inr (by simpa using hx)));refine ⟨c.args.toList.map a.eval++cs, ?_,fun w=> ?_⟩
    ·rw [←h2,jeE];obtain ⟨p1,p2⟩:=(VRs.iff _ _).1 hargs;obtain ⟨q1,q2⟩:=(VRs.iff _ _).1 hcs;refine (VRs.iff _ _).2 ⟨by rw [List.length_append,List.length_append,p1,q1],fun j b u hb hu=> ?_⟩;rw [List.getElem?_append] at hb hu;by_cases hj:j < (jgD (opd tm) c.args.toList).length
     ·rw [if_pos hj] at hb;rw [if_pos (by omega)] at hu;exact p2 j b u hb hu
     ·rw [if_neg hj] at hb;rw [if_neg (by omega)] at hu;rw [p1] at hb;exact q2 _ b u hb hu
    ·have he:(c.args.map a.eval++cs.toArray)=(c.args.toList.map a.eval++cs).toArray:=by apply Array.ext';simp
     simp only [execOp,hop,resolve,hf,hv,Deferred.ofValue,Sem.run_bind,Sem.run_pure,Result.andThen_ok,invoke,Array.empty_append,he]
   ·cases e1
  ·cases hfn
 ·cases hfn

theorem Ext.trans {ι1 ι2:Emb} {w1:World} {lo mid hi wm1 wm2:Nat} (h1:Ext ι ι1 lo mid wm1 w) (h2:Ext ι1 ι2 mid hi wm2 w1) (hs:w.heap.size≤w1.heap.size) (hw:wm2≤wm1) (hl:lo≤mid) (hm:mid≤hi):Ext ι ι2 lo hi wm2 w:=by
 have fst:∀id l,lo≤id→id < mid→ι1 id=some l→w.heap.size≤l.b∨∃id0 l0,wm2≤id0∧id0 < lo∧ι id0=some l0∧l0.b=l.b:=by
  intro id l a b e;rcases h1.new id l a b e with h|⟨id0,l0,c1,c2,c3,c4⟩
  ·exact .inl h
  ·exact .inr ⟨id0,l0,by omega,c2,c3,c4⟩
 refine ⟨fun id hid=> ?_,fun id l a b e=> ?_⟩
 ·rw [h2.same id (by omega),h1.same id (by omega)]
 ·by_cases hc:id < mid
  ·rw [h2.same id (by omega)] at e;exact fst id l a hc e
  ·rcases h2.new id l (by omega) b e with h|⟨id0,l0,c1,c2,c3,c4⟩
   ·exact .inl (Nat.le_trans hs h)
   ·by_cases hc0:id0 < lo
    ·rw [h1.same id0 (by omega)] at c3;exact .inr ⟨id0,l0,c1,hc0,c3,c4⟩
    ·rcases fst id0 l0 (by omega) c2 c3 with h|⟨id1,l1,d1,d2,d3,d4⟩
     ·exact .inl (by rw [←c4];exact h)
     ·exact .inr ⟨id1,l1,d1,d2,d3,by rw [d4,c4]⟩
theorem Fr.trans {ι1:Emb} {w1 w2:World} {lo mid wm1 wm2:Nat} (he:Ext ι ι1 lo mid wm1 w) (h1:Fr ι wm1 lo w w1) (h2:Fr ι1 wm2 mid w1 w2) (hw:wm2≤wm1):Fr ι wm2 lo w w2:=by
 refine ⟨h2.os.trans h1.os,h2.tape.trans h1.tape,h2.output.trans h1.output,Nat.le_trans h1.size h2.size,fun B hB hn=> ?_⟩;rw [h2.keep B (Nat.lt_of_lt_of_le hB h1.size) (fun id l a b e=> ?_),h1.keep B hB (fun id l a b e=>hn id l (by omega) b e)];by_cases hc:id < lo
 ·rw [he.same id (by omega)] at e;exact hn id l a hc e
 ·rcases he.new id l (by omega) b e with h|⟨id0,l0,d1,d2,d3,d4⟩
  ·omega
  ·rw [←d4];exact hn id0 l0 (by omega) d2 d3
theorem Fr.mono {lo lo' hi:Nat} {w':World} (h:Fr ι lo hi w w') (hl:lo'≤lo):Fr ι lo' hi w w':=
 ⟨h.os,h.tape,h.output,h.size,fun B hB hn=>h.keep B hB fun id l a b e=>hn id l (by omega) b e⟩
theorem Ext.mono {ι1:Emb} {lo hi wm wm':Nat} (h:Ext ι ι1 lo hi wm w) (hl:wm'≤wm):Ext ι ι1 lo hi wm' w:=
 ⟨h.same,fun id l a b e=>by
   rcases h.new id l a b e with h|⟨id0,l0,c1,c2,c3,c4⟩
   ·exact .inl h
   ·exact .inr ⟨id0,l0,by omega,c2,c3,c4⟩⟩
theorem jdR.sub {lo hi lo' hi':Nat} (h:jdR ι lo hi) (h1:lo≤lo') (h2:hi'≤hi):jdR ι lo' hi':=fun id a b=>h id (by omega) (by omega)
theorem jdR.ext {ι1:Emb} {lo mid hi wm:Nat} (h:jdR ι lo hi) (he:Ext ι ι1 lo mid wm w) (hm:lo≤mid):jdR ι1 mid hi:=fun id a b=>by
 rw [he.same id (by omega)];exact h id (by omega) b
end
end Go.Proofs.YtpkcjfpgemdfdaaGreatDoor.Ax
namespace Go.Proofs.YtpkcjfpgemdfdaaGreatDoor.Ax
open Go Go.RowKit
set_option linter.unusedSimpArgs false
set_option linter.unusedVariables false
structure TmR (ι:Emb) (tm:Tm) (n:Nat) (a:Act):Prop where
 size:a.tmps.size=n
 val:∀t,VR ι (jd0 tm t) (a.tmps.getD t undef)
section
variable {P:Program} {hk:jfr} {self:jfx} {w:World} {ι:Emb} {o:Oper} {tm tm':Tm} {h h':Hp} {v:AV} {n:Nat} {a:Act}
theorem TmR.mono {ι':Emb} (hi:Le ι ι') (hT:TmR ι tm n a):TmR ι' tm n a:=⟨hT.size,fun t=>VR.mono hi _ _ (hT.val t)⟩
theorem TmR.opd {H:Hf} (hT:TmR ι tm n a) (hW:WR ι H w) (x:Operand):VR ι (opd tm x) (a.eval x):=by
 cases x with
 | tmp t=>exact hT.val t
 | const v=>exact VR.toAV v
 | func f=>exact VR.fn.2 ⟨[],rfl,VRs.nil.2 rfl⟩
 | global g=>
   show VR ι (bif Nat.blt g 100 then .ptr g 0 else .any) (.pointer (some ⟨g,0,none⟩))
   rw [blt_eq];by_cases hg:g < 100
   ·rw [decide_eq_true hg];obtain ⟨m,hm⟩:=hW.gl g hg;exact VR.ptr.2 ⟨_,hm,by simp⟩
   ·rw [decide_eq_false hg];exact VR.any
theorem TmR.opr {H:Hf} (hT:TmR ι tm n a) (hW:WR ι H w):Opr ι tm a o:=fun x _=>hT.opd hW x
theorem jnK {d:Option Nat} (e:put n tm d v=some tm'):(d=none∧tm'=tm)∨∃k,d=some k∧k < n∧tm'=tm.set k v:=by
 cases d with
 | none=>exact .inl ⟨rfl,(Option.some.inj (show some tm=some tm' from e)).symm⟩
 | some k=>
   have e':(Bool.rec (motive:=fun _=>Option Tm) none (some (tm.set k v)) (Nat.blt k n):Option Tm)=some tm':=e;rw [blt_eq] at e';by_cases hk:k < n
   ·rw [decide_eq_true hk] at e';exact .inr ⟨k,rfl,hk,(Option.some.inj e').symm⟩
   ·rw [decide_eq_false hk] at e';cases e'
theorem jkj (k t:Nat):jd0 (tm.set k v) t=if t=k then v else jd0 tm t:=by
 unfold jd0;rw [Tr.get_set];split <;> rfl
theorem TmR.put {d:Option Nat} {vc:Value} (hT:TmR ι tm n a) (hv:VR ι v vc) (e:put n tm d v=some tm'):TmR ι tm' n (a.put d vc):=by
 rcases jnK e with ⟨rfl,rfl⟩|⟨k,rfl,hk,rfl⟩
 ·exact hT
 ·refine ⟨by simpa [Act.put] using hT.size,fun t=> ?_⟩;rw [jkj];have hs:=hT.size;by_cases ht:t=k
  ·subst ht;rw [if_pos rfl];have:(a.put (some t) vc).tmps.getD t undef=vc:=by simp [Act.put,Array.getD,hs,hk]
   rw [this];exact hv
  ·rw [if_neg ht]
   have:(a.put (some k) vc).tmps.getD t undef=a.tmps.getD t undef:=by
    simp only [Act.put,Array.getD_eq_getD_getElem?];rw [Array.getElem?_setIfInBounds_ne (Ne.symm ht)]
   rw [this];exact hT.val t
theorem VR.bool_iff {x:AV} {u:Value} (hx:VR ι x u) (hne:x≠ .any) (b:Bool) (hu:u= .bool b):x= .bool b:=by
 subst hu;cases x with
 | bool c=>have:=VR.bool.1 hx;injection this with h;rw [h]
 | int k m=>have:=VR.int.1 hx;cases this
 | str s=>have:=VR.str.1 hx;cases this
 | ptr id off=>obtain ⟨l,_,this⟩:=VR.ptr.1 hx;cases this
 | nilp=>have:=VR.nilp.1 hx;cases this
 | slc id off len cap=>obtain ⟨l,y,c,_,this,_⟩:=VR.slc.1 hx;cases this
 | nils=>have:=VR.nils.1 hx;cases this
 | agg vs=>obtain ⟨cs,this,_⟩:=VR.agg.1 hx;cases this
 | tup vs=>obtain ⟨cs,this,_⟩:=VR.tup.1 hx;cases this
 | fn f vs=>obtain ⟨cs,this,_⟩:=VR.fn.1 hx;cases this
 | nilf=>have:=VR.nilf.1 hx;cases this
 | nili=>have:=VR.nili.1 hx;cases this
 | any=>exact absurd rfl hne
def tv (b:Bool):Value→Bool
 | .bool c=>c==b
 | _=>false
theorem jlW {b r:Bool} {x:AV} {u:Value} (e:jfX b x=some r) (hx:VR ι x u):tv b u=r:=by
 unfold jfX at e;split at e
 ·rename_i c
  have:=VR.bool.1 hx;subst this;have:=Option.some.inj e;subst this;cases c <;> cases b <;> rfl
 ·cases e
 ·rename_i h1 h2
  have:=Option.some.inj e;subst this;cases u with
  | bool c=>exact absurd (VR.bool_iff hx h2 c rfl) (h1 c)
  | _=>rfl
theorem jpk {ops:Array Oper} {g:Nat}:jeh ops g=(ops[g]?).bind (·.dst):=by
 unfold jeh;rw [jcW];have:ops.toList[g]? =ops[g]? :=by simp
 rw [this];cases ops[g]? <;> rfl
theorem jiG {ops:Array Oper} {b:Bool} (e:want ops tm o=some b) (hT:∀g c d,o.guard=some (g,c)→jeh ops g=some d→VR ι (jd0 tm d) (a.tmps.getD d undef)):Region.wanted o (yielded ops a.tmps)=b:=by
 unfold Region.wanted;have e':(Option.rec (motive:=fun _=>Option Bool) (some true) (fun g=>Option.rec (motive:=fun _=>Option Bool) (some false) (fun d=>jfX g.2 (jd0 tm d)) (jeh ops g.1)) o.guard:Option Bool)=some b:=e;cases hg:o.guard with
 | none=>rw [hg] at e';have:=Option.some.inj (show some true=some b from e');subst this;rfl
 | some g=>
   obtain ⟨g,c⟩:=g;rw [hg] at e';have e2:(Option.rec (motive:=fun _=>Option Bool) (some false) (fun d=>jfX c (jd0 tm d)) (jeh ops g):Option Bool)=some b:=e';show (yielded ops a.tmps g==some c)=b
   unfold yielded;rw [←jpk];cases hd:jeh ops g with
   | none=>
     rw [hd] at e2;have:=Option.some.inj (show some false=some b from e2);subst this;rfl
   | some d=>
     rw [hd] at e2;have e3:jfX c (jd0 tm d)=some b:=e2;have h1:=jlW e3 (hT g c d hg hd);rw [←h1];simp only [Option.bind_some];rw [Array.getD_eq_getD_getElem?];cases hq:a.tmps[d]? with
     | none=>rfl
     | some u=>
       simp only [Option.getD_some];cases u <;> first|rfl|(rename_i x;cases x <;> cases c <;> rfl)

structure CallOk (P:Program) (f:Nat) (args:List AV) (h:Hp) (v:AV) (h':Hp):Prop where
 nx:h.nx≤h'.nx
 wm:h'.wm≤h.wm
 bd:Bd h→Bd h'
 keep:∀id,id < h.nx→id < h'.wm→h'.h.get id=h.h.get id
 run:∀(ι:Emb) (w:World) (vals:List Value),VRs ι args vals→WR ι h.h.get w→jdR ι h.nx h'.nx→Bd h→Gives P ((callFunc f vals.toArray).run P w) (jer ι h'.h.get h.nx h'.nx h'.wm w v)
def jbD (P:Program) (hk:jfr):Prop:=∀f g,hk f=some g→∀args h v h',g args h= .val v h'→CallOk P f args h v h'
def St (ι:Emb) (h:Hp) (n:Nat) (a:Act) (w:World) (tm':Tm) (h':Hp) (a':Act) (w':World):Prop:=
 a'.defers=a.defers∧∃ι',Ext ι ι' h.nx h'.nx h'.wm w∧TmR ι' tm' n a'∧WR ι' h'.h.get w'∧Fr ι h'.wm h.nx w w'
def CP (ι:Emb) (h:Hp) (n:Nat) (a:Act) (w:World):Rs→Exit→Act→World→Prop
 | .normal tm' h',e,a',w'=>e= .normal∧St ι h n a w tm' h' a' w'
 | .exit i tm' h',e,a',w'=>e= .exit i∧St ι h n a w tm' h' a' w'
 | .ret tm' h',e,a',w'=>e= .ret∧St ι h n a w tm' h' a' w'
 | .bad,_,_,_=>False
def jr1:Rs→Option Hp
 | .normal _ h=>some h
 | .exit _ _ h=>some h
 | .ret _ h=>some h
 | .bad=>none
def cwp (P:Program) (c:Code) (Q:Exit→Act→World→Prop) (a:Act) (w:World):Prop:=
 match c with
 | .loop b=>∀(fr:Frame) (k:List Item) (cs:List Frame),∃e a' w',Q e a' w'∧Arrives P (lone (fr.at a (.code b:: .inLoop b::k)) cs w) fr k cs e a' w'
 | c=>c.wp P Q a w
theorem jbu {c:Code} {Q:Exit→Act→World→Prop} (hc:cwp P c Q a w):c.wp P Q a w:=by
 cases c with
 | loop b=>
   intro fr k cs;obtain ⟨e,a',w',hq,ha⟩:=hc fr k cs;exact ⟨e,a',w',hq, .of_steps (.one step_loop) ha⟩
 | _=>exact hc
structure CodeOk (P:Program) (c:Code) (tm:Tm) (n:Nat) (h:Hp) (r:Rs) (h':Hp):Prop where
 nx:h.nx≤h'.nx
 wm:h'.wm≤h.wm
 bd:Bd h→Bd h'
 keep:∀id,id < h.nx→id < h'.wm→h'.h.get id=h.h.get id
 run:∀(ι:Emb) (w:World) (a:Act),TmR ι tm n a→WR ι h.h.get w→jdR ι h.nx h'.nx→Bd h→cwp P c (CP ι h n a w r) a w
def jcH (P:Program) (self:jfx):Prop:=∀c tm n h r h',100≤h.nx→Bd h→self c tm n h=r→jr1 r=some h'→CodeOk P c tm n h r h'
structure OneOk (P:Program) (o:Oper) (tm:Tm) (h h':Hp) (v:AV):Prop where
 nx:h.nx≤h'.nx
 wm:h'.wm≤h.wm
 bd:Bd h→Bd h'
 keep:∀id,id < h.nx→id < h'.wm→h'.h.get id=h.h.get id
 run:∀(ι:Emb) (w:World) (a:Act),Opr ι tm a o→WR ι h.h.get w→jdR ι h.nx h'.nx→Bd h→Gives P ((execOp a.eval o).run P w) (jer ι h'.h.get h.nx h'.nx h'.wm w v)
theorem OneOk.of {rd wr:List Nat} (hO:OpOk P o tm h h' v rd wr):OneOk P o tm h h' v:=by
 have hk:∀id,id < h.nx→id < h'.wm→h'.h.get id=h.h.get id:=fun id h1 h2=>by
  by_cases hid:id∈wr
  ·rcases hO.wrw id hid with h3|h3
   ·omega
   ·exact h3
  ·exact hO.only id hid (by omega)
 refine ⟨hO.nx,hO.wm,hO.bd,hk,fun ι w a ho hW hf hB=>hO.run ι h.h.get h'.h.get w a hW hf ho (fun _ _ _ h=>h) hB (fun _ _=>rfl) (fun id h1 h2=>hO.only id h1 h2)⟩
theorem jgE:VR ι (.tup []) undef:=VR.tup.2 ⟨[],rfl,VRs.nil.2 rfl⟩
theorem jjQ:∀(l:List AV) (i:Nat) (t:Tm) (j:Nat),(jq9 l i t).get j=if i≤j∧j < i+l.length then l[j - i]? else t.get j
 | [],i,t,j=>by
   have:jq9 [] i t=t:=rfl;rw [this,if_neg (by simp)]
 | x::l,i,t,j=>by
   have:jq9 (x::l) i t=jq9 l (i+1) (t.set i x):=rfl;rw [this,jjQ l (i+1) _ j,Tr.get_set];simp only [List.length_cons];by_cases hj:j=i
   ·subst hj;rw [if_neg (by omega),if_pos rfl,if_pos (by omega),Nat.sub_self];rfl
   ·by_cases hr:i+1≤j∧j < i+1+l.length
    ·rw [if_pos hr,if_pos (by omega),show j - i=(j - (i+1))+1 by omega,List.getElem?_cons_succ]
    ·rw [if_neg hr,if_neg hj,if_neg (by omega)]
theorem jmG {args:List AV} {vals:List Value} (hv:VRs ι args vals) (nt:Nat):TmR ι (jq9 args 0 .lf) (max nt args.length) { tmps:=vals.toArray++Array.replicate (nt - vals.toArray.size) undef,defers:=[] }:=by
 obtain ⟨h1,h2⟩:=(VRs.iff _ _).1 hv;refine ⟨by simp;omega,fun t=> ?_⟩;unfold jd0;rw [jjQ];simp only [Nat.zero_le,true_and,Nat.zero_add,Nat.sub_zero];by_cases ht:t < args.length
 ·rw [if_pos ht,List.getElem?_eq_getElem ht]
  have hd:(vals.toArray++Array.replicate (nt - vals.toArray.size) undef).getD t undef=vals[t]'(by omega):=by
   rw [Array.getD_eq_getD_getElem?,Array.getElem?_append,if_pos (by simp;omega)];simp [List.getElem?_eq_getElem (show t < vals.length by omega)]
  rw [hd];exact h2 t _ _ (List.getElem?_eq_getElem ht) (List.getElem?_eq_getElem (by omega))
 ·rw [if_neg ht]
  have hd:(vals.toArray++Array.replicate (nt - vals.toArray.size) undef).getD t undef=undef:=by
   rw [Array.getD_eq_getD_getElem?,Array.getElem?_append,if_neg (by simp;omega)];simp only [Array.getElem?_replicate];split <;> rfl
  rw [hd];exact jgE
def rvS (tmps:Array Value):ResultVar→Sem Value
 | .tmp t=>pure (tmps.getD t undef)
 | .cell p t=>do loadVar t (←asAddr (tmps.getD p undef))
theorem jl8 (fn:Func) (tmps:Array Value):results fn tmps=(do let vs ←fn.results.mapM (rvS tmps);pure (if h:vs.size=1 then vs[0] else .tuple vs)):=by
 unfold results
 congr 2
theorem jjM (hT:TmR ι tm n a) (hW:WR ι h.h.get w):∀(rs:List ResultVar) (vs:List AV),jpN P tm h rs=some vs→
  ∃vals:List Value,VRs ι vs vals∧(rs.mapM (rvS a.tmps)).run P w= .ok vals w
 | [],vs,e=>by
   have:=Option.some.inj (show some []=some vs from e);subst this;exact ⟨[],VRs.nil.2 rfl,by simp⟩
 | r::rs,vs,e=>by
   have e1:jvG (jpN P tm h rs) (jvk P tm h r)=some vs:=e;cases hr:jvk P tm h r with
   | none=>rw [hr] at e1;cases e1
   | some v=>
     rw [hr] at e1;obtain ⟨l,hl,rfl⟩:=jd8 (show jfp v (jpN P tm h rs)=some vs from e1);obtain ⟨vals,g1,g2⟩:=jjM hT hW rs l hl;cases r with
     | tmp t=>
       have:=Option.some.inj (show some (jd0 tm t)=some v from hr);subst this;refine ⟨a.tmps.getD t undef::vals,VRs.cons.2 ⟨_,_,rfl,hT.val t,g1⟩, ?_⟩;simp only [List.mapM_cons,rvS,Sem.run_bind,Sem.run_pure,Result.andThen_ok,g2]
     | cell p t=>
       have e2:juI P t h (jd0 tm p)=some v:=hr;have hp:=hT.val p;cases hq:jd0 tm p with
       | ptr id off=>
         rw [hq] at e2 hp;obtain ⟨l0,hl0,hv⟩:=VR.ptr.1 hp;have e3:(match blk h id with|some cs=>jir P t cs off|none=>none)=some v:=e2;split at e3
         ·rename_i cs hcs
          obtain ⟨vc,k1,k2⟩:=jjX (P:=P) (jcm hW (fun _ h=>h) hl0 hcs) e3;refine ⟨vc::vals,VRs.cons.2 ⟨_,_,rfl,k2,g1⟩, ?_⟩;have hA:(asAddr (a.tmps.getD p undef)).run P w= .ok ⟨l0.b,l0.d+off,none⟩ w:=by rw [hv];rfl
          simp only [List.mapM_cons,rvS,Sem.run_bind,Sem.run_pure,Result.andThen_ok,hA,k1,g2]
         ·cases e3
       | _=>rw [hq] at e2;cases e2
theorem juc {f : Nat} {d : FnD} (e : fnD P f = some d) : ∃ fn c, P.funcs[f]? = some fn ∧ fn.body = some c ∧ (fn.name == "runtime.NumGoroutine") = false ∧ d = ⟨fn.ntmps, fn.results.toList, c⟩ := by
 unfold fnD at e;split at e
 ·rename_i fn hf
  split at e
  ·rename_i c hc
   cases hn : (fn.name == "runtime.NumGoroutine") with
   | true=>rw [hn] at e;cases e
   | false=>rw [hn] at e;exact ⟨fn,c,hf,hc,hn,(Option.some.inj e).symm⟩
  ·cases e
 ·cases e
theorem joh {rs:List ResultVar} {r:Rs} (e:jrQ P rs r= .val v h'):∃tm' vs,(r= .normal tm' h'∨r= .ret tm' h')∧jpN P tm' h' rs=some vs∧v=jt7 vs:=by
 have key:∀tm h1,jv0 h1 (jpN P tm h1 rs)= .val v h'→h1=h'∧∃vs,jpN P tm h1 rs=some vs∧v=jt7 vs:=fun tm h1 e=>by
  cases hr:jpN P tm h1 rs with
  | none=>rw [hr] at e;cases e
  | some vs=>rw [hr] at e;obtain ⟨a,b⟩:=val_inj (show Ro.val (jt7 vs) h1= .val v h' from e);exact ⟨b,vs,rfl,a.symm⟩
 cases r with
 | normal tm h1=>obtain ⟨rfl,vs,h2,h3⟩:=key tm h1 e;exact ⟨tm,vs, .inl rfl,h2,h3⟩
 | ret tm h1=>obtain ⟨rfl,vs,h2,h3⟩:=key tm h1 e;exact ⟨tm,vs, .inr rfl,h2,h3⟩
 | exit i tm h1=>cases e
 | bad=>cases e
theorem jrb {vs:List AV} {vals:List Value} (hv:VRs ι vs vals):VR ι (jt7 vs) (if h:vals.toArray.size=1 then vals.toArray[0] else .tuple vals.toArray):=by
 obtain ⟨h1,h2⟩:=(VRs.iff _ _).1 hv
 match vs,vals,hv,h1,h2 with
 | [v],[u],hv,h1,h2=>exact h2 0 v u rfl rfl
 | [],[],hv,h1,h2=>exact VR.tup.2 ⟨[],rfl,hv⟩
 | x::y::l,p::q::m,hv,h1,h2=>exact VR.tup.2 ⟨_,by simp,hv⟩
theorem jiP (hh:jbD P hk) (hs:jcH P self) {f:Nat} {args:List AV} (h100:100≤h.nx) (hB0:Bd h) (e:call P hk self f args h= .val v h'):CallOk P f args h v h':=by
 have e1:jtu P self f args h (hk f)= .val v h':=e;cases hg:hk f with
 | some g=>rw [hg] at e1;exact hh f g hg args h v h' e1
 | none=>
   rw [hg] at e1;have e2:jqI P self args h (fnD P f)= .val v h':=e1;cases hd:fnD P f with
   | none=>rw [hd] at e2;cases e2
   | some d=>
     rw [hd] at e2;obtain ⟨fn,c,hf,hc,hname,rfl⟩:=juc hd;have e3:jrQ P fn.results.toList (self c (jq9 args 0 .lf) (bif Nat.ble fn.ntmps (jch args) then jch args else fn.ntmps) h)= .val v h':=e2;obtain ⟨tm',vs,hr,hvs,rfl⟩:=joh e3
     have hmax:(bif Nat.ble fn.ntmps (jch args) then jch args else fn.ntmps)=max fn.ntmps args.length:=by
      rw [jbw,jaS];by_cases hc:fn.ntmps≤args.length
      ·rw [decide_eq_true hc,Nat.max_eq_right hc];rfl
      ·rw [decide_eq_false hc,Nat.max_eq_left (by omega)];rfl
     rw [hmax] at hr
     have hC:CodeOk P c (jq9 args 0 .lf) (max fn.ntmps args.length) h (self c (jq9 args 0 .lf) (max fn.ntmps args.length) h) h':=
      hs c _ _ _ _ h' h100 hB0 rfl (by rcases hr with h|h <;> rw [h] <;> rfl)
     refine ⟨hC.nx,hC.wm,hC.bd,hC.keep,fun ι w vals hv hW hf' hB=> ?_⟩
     have hcall:(callFunc f vals.toArray).run P w= .ok (.enter f vals.toArray) w:=by
      have hn : ¬ (fn.name = "runtime.NumGoroutine") := by simpa using hname
      simp [callFunc,hf,hc,hn]
     rw [hcall];have hrun:=hC.run ι w { tmps:=vals.toArray++Array.replicate (fn.ntmps - vals.toArray.size) undef,defers:=[] } (jmG hv fn.ntmps) hW hf' hB;refine calls_of_wp hf hc (wp_mono (jbu hrun) fun e a' w' hp=> ?_)
     have fin:St ι h (max fn.ntmps args.length) { tmps:=vals.toArray++Array.replicate (fn.ntmps - vals.toArray.size) undef,defers:=[] } w tm' h' a' w'→a'.defers=[]∧∃u,(results fn a'.tmps).run P w'= .ok u w'∧∃u',Ending.returned u= .returned u'∧jer ι h'.h.get h.nx h'.nx h'.wm w (jt7 vs) u' w':=by
      rintro ⟨d1,ι',d2,d3,d4,d5⟩
      obtain ⟨rvals,k1,k2⟩:=jjM (P:=P) d3 d4 fn.results.toList vs hvs;refine ⟨d1,_, ?_,_,rfl,ι',d2,jrb k1,d4,d5⟩;rw [jl8,Array.mapM_eq_mapM_toList];simp only [Sem.run_bind,Sem.run_map,k2,Result.andThen_ok,Sem.run_pure]
     rcases hr with hr|hr
     ·rw [hr] at hp;obtain ⟨rfl,hp⟩:=hp;exact fin hp
     ·rw [hr] at hp;obtain ⟨rfl,hp⟩:=hp;exact fin hp
theorem jqA (hh:jbD P hk) (hs:jcH P self) (h100:100≤h.nx) (hB0:Bd h) (e:one P hk self o tm h= .val v h'):OneOk P o tm h h' v:=by
 have e1:juX P hk self o.op (aop o.op P tm h) h= .val v h':=e;cases ha:aop o.op P tm h with
 | bad=>rw [ha] at e1;cases e1
 | val v1 h1=>
   rw [ha] at e1;obtain ⟨rfl,rfl⟩:=val_inj (show Ro.val v1 h1=Ro.val v h' from e1);obtain ⟨rd,wr,_,hO,_⟩:=jqH ha;exact .of hO
 | enter f args=>
   rw [ha] at e1;have e2:(bif js5 o.op then call P hk self f args h else .bad)= .val v h':=e1;cases hfn:js5 o.op with
   | false=>rw [hfn] at e2;cases e2
   | true=>
     rw [hfn] at e2;have hC:=jiP hh hs h100 hB0 (show call P hk self f args h= .val v h' from e2);obtain ⟨_,hE⟩:=jhd ha hfn;refine ⟨hC.nx,hC.wm,hC.bd,hC.keep,fun ι w a ho hW hf hB=> ?_⟩;obtain ⟨vals,h1,h2⟩:=hE ι a ho;rw [h2];exact hC.run ι w vals h1 hW hf hB
theorem jfJ {r:Result Next} {K:Value→World→Prop} {next:Act→World→Prop} {Q:Exit→Act→World→Prop} (hg:Gives P r K) (hn:∀v w,K v w→next (a.put o.dst v) w):o.upon P a next Q r:=by
 cases r with
 | halt x w=>exact hg.elim
 | ok nx w=>
   cases nx with
   | value v=>exact hn v w hg
   | skip=>exact hn undef w hg
   | enter f args=>
     refine Calls.mono hg fun e w' he=> ?_
     obtain ⟨v,rfl,hk⟩:=he;exact hn v w' hk
   | _=>exact hg.elim
theorem jiK (hh:jbD P hk) (hs:jcH P self) (all:Array Oper):∀(l:List Oper) (tm:Tm) (h:Hp) (r:Rs) (h':Hp),100≤h.nx→Bd h→jsB P hk self all l tm n h=r→jr1 r=some h'→
  ∃tm',r= .normal tm' h'∧h.nx≤h'.nx∧h'.wm≤h.wm∧(Bd h→Bd h')∧(∀id,id < h.nx→id < h'.wm→h'.h.get id=h.h.get id)∧
  ∀(ι:Emb) (w:World) (a:Act) (Q:Exit→Act→World→Prop),TmR ι tm n a→WR ι h.h.get w→jdR ι h.nx h'.nx→Bd h→(∀a' w',St ι h n a w tm' h' a' w'→Q .normal a' w')→wpList P all Q l a w
 | [],tm,h,r,h',h100,hB0,e,ho=>by
   have e':Rs.normal tm h=r:=e;subst e';have:=Option.some.inj ho;subst this;refine ⟨tm,rfl,Nat.le_refl _,Nat.le_refl _,fun h=>h,fun _ _ _=>rfl,fun ι w a Q hT hW hf hB hQ=> ?_⟩;exact wpList_nil (hQ a w ⟨rfl,ι,Ext.refl _ _ _ _,hT,hW,Fr.refl _ _ _ _⟩)
 | o::l,tm,h,r,h',h100,hB0,e,ho=>by
   have e1:juq P hk self o (jsB P hk self all l) tm n h (want all tm o)=r:=e;cases hw:want all tm o with
   | none=>rw [hw] at e1;have:Rs.bad=r:=e1;subst this;cases ho
   | some b=>
     rw [hw] at e1;cases b with
     | false=>
       have e2:jq0 (jsB P hk self all l) n h (put n tm o.dst (.tup []))=r:=e1;cases hp:put n tm o.dst (.tup []) with
       | none=>rw [hp] at e2;have:Rs.bad=r:=e2;subst this;cases ho
       | some tm1=>
         rw [hp] at e2;obtain ⟨tm',h1,h2,h3,h4,h5,h6⟩:=jiK hh hs all l tm1 h r h' h100 hB0 e2 ho;refine ⟨tm',h1,h2,h3,h4,h5,fun ι w a Q hT hW hf hB hQ=>wpList_step fun K hK=> ?_⟩;have hwant:=jiG (a:=a) hw (fun g c d _ _=>hT.val d);rw [if_neg (by rw [hwant];simp)]
         exact hK _ _ (h6 ι w _ Q (hT.put jgE hp) hW hf hB (fun a' w' hS=>hQ a' w' (by
          obtain ⟨d1,d2⟩:=hS
          exact ⟨d1.trans (by cases o.dst <;> rfl),d2⟩)))
     | true=>
       have e2:goS (jsB P hk self all l) o.dst tm n (one P hk self o tm h)=r:=e1;cases h1:one P hk self o tm h with
       | bad=>rw [h1] at e2;have:Rs.bad=r:=e2;subst this;cases ho
       | enter f args=>rw [h1] at e2;have:Rs.bad=r:=e2;subst this;cases ho
       | val v h2=>
         rw [h1] at e2;have e3:jq0 (jsB P hk self all l) n h2 (put n tm o.dst v)=r:=e2;cases hp:put n tm o.dst v with
         | none=>rw [hp] at e3;have:Rs.bad=r:=e3;subst this;cases ho
         | some tm1=>
           rw [hp] at e3;have hO:=jqA hh hs h100 hB0 h1;obtain ⟨tm',g1,g2,g3,g4,g5,g6⟩:=jiK hh hs all l tm1 h2 r h' (Nat.le_trans h100 hO.nx) (hO.bd hB0) e3 ho;refine ⟨tm',g1,Nat.le_trans hO.nx g2,Nat.le_trans g3 hO.wm,fun hB=>g4 (hO.bd hB),fun id i1 i2=> ?_,fun ι w a Q hT hW hf hB hQ=>wpList_step fun K hK=> ?_⟩
           ·rw [g5 id (Nat.lt_of_lt_of_le i1 hO.nx) i2,hO.keep id i1 (by omega)]
           ·have hwant:=jiG (a:=a) hw (fun g c d _ _=>hT.val d);rw [if_pos hwant];refine jfJ (hO.run ι w a (hT.opr hW) hW (hf.sub (Nat.le_refl _) g2) hB) fun vc w1 hP=> ?_
            obtain ⟨ι1,p1,p2,p3,p4⟩:=hP;have hle:=p1.le (hf.sub (Nat.le_refl _) g2);refine hK _ _ (g6 ι1 w1 _ Q ((hT.mono hle).put p2 hp) p3 (jdR.ext hf p1 hO.nx) (hO.bd hB) (fun a' w' hS=>hQ a' w' ?_));obtain ⟨d1,ι2,q1,q2,q3,q4⟩:=hS;exact ⟨d1.trans (by cases o.dst <;> rfl),ι2,p1.trans q1 p4.size g3 hO.nx g2,q2,q3,p4.trans p1 q4 g3⟩
end
end Go.Proofs.YtpkcjfpgemdfdaaGreatDoor.Ax
namespace Go.Proofs.YtpkcjfpgemdfdaaGreatDoor.Ax
open Go Go.RowKit
set_option linter.unusedSimpArgs false
set_option linter.unusedVariables false
section
variable {P:Program} {hk:jfr} {self:jfx} {w:World} {ι:Emb} {o:Oper} {tm tm':Tm} {h h':Hp} {v:AV} {n:Nat} {a:Act}
theorem St.trans {ι1:Emb} {tm2:Tm} {h1 h2:Hp} {a1 a2:Act} {w1 w2:World} (d1:a1.defers=a.defers) (p1:Ext ι ι1 h.nx h1.nx h1.wm w) (p4:Fr ι h1.wm h.nx w w1) (n1:h.nx≤h1.nx) (n2:h1.nx≤h2.nx) (m2:h2.wm≤h1.wm)
  (hS:St ι1 h1 n a1 w1 tm2 h2 a2 w2):St ι h n a w tm2 h2 a2 w2:=by
 obtain ⟨d2,ι2,q1,q2,q3,q4⟩:=hS;exact ⟨d2.trans d1,ι2,p1.trans q1 p4.size m2 n1 n2,q2,q3,p4.trans p1 q4 m2⟩
def jAh:Rs→Tm
 | .normal t _=>t
 | .exit _ t _=>t
 | .ret t _=>t
 | .bad=> .lf
theorem CP.st {r:Rs} {h':Hp} {e:Exit} {a':Act} {w':World} (ho:jr1 r=some h') (hp:CP ι h n a w r e a' w'):St ι h n a w (jAh r) h' a' w':=by
 cases r with
 | bad=>cases ho
 | normal t g=>have:=Option.some.inj ho;subst this;exact hp.2
 | exit i t g=>have:=Option.some.inj ho;subst this;exact hp.2
 | ret t g=>have:=Option.some.inj ho;subst this;exact hp.2
theorem CP.of {r:Rs} {h1 h2:Hp} {ι1:Emb} {a1 a2:Act} {w1 w2:World} {e:Exit} (d1:a1.defers=a.defers) (p1:Ext ι ι1 h.nx h1.nx h1.wm w) (p4:Fr ι h1.wm h.nx w w1) (n1:h.nx≤h1.nx) (ho:jr1 r=some h2) (n2:h1.nx≤h2.nx) (m2:h2.wm≤h1.wm)
  (hp:CP ι1 h1 n a1 w1 r e a2 w2):CP ι h n a w r e a2 w2:=by
 cases r with
 | bad=>cases ho
 | normal t g=>have:=Option.some.inj ho;subst this;exact ⟨hp.1,St.trans d1 p1 p4 n1 n2 m2 hp.2⟩
 | exit i t g=>have:=Option.some.inj ho;subst this;exact ⟨hp.1,St.trans d1 p1 p4 n1 n2 m2 hp.2⟩
 | ret t g=>have:=Option.some.inj ho;subst this;exact ⟨hp.1,St.trans d1 p1 p4 n1 n2 m2 hp.2⟩
theorem St.refl {H:TmR ι tm n a} (hW:WR ι h.h.get w):St ι h n a w tm h a w:=⟨rfl,ι,Ext.refl _ _ _ _,H,hW,Fr.refl _ _ _ _⟩
def jo8 (P:Program) (hk:jfr) (self:jfx):Prop:=
 ∀(os:Array Oper) (id:Nat) (tm:Tm) (n:Nat) (h:Hp) (r:Rs) (h':Hp),100≤h.nx→Bd h→jqQ P hk self os (juO os) os.toList [] tm n h=r→jr1 r=some h'→CodeOk P (.region id os true) tm n h r h'
theorem jox (hh:jbD P hk) (hs:jcH P self) (hd:jo8 P hk self):∀(c:Code) (tm:Tm) (n:Nat) (h:Hp) (r:Rs) (h':Hp),100≤h.nx→Bd h→je2 c P hk self tm n h=r→jr1 r=some h'→CodeOk P c tm n h r h':=by
 have skip:∀(c:Code),(∀(Q:Exit→Act→World→Prop) a w,Q .normal a w→cwp P c Q a w)→∀(tm:Tm) (n:Nat) (h:Hp) (r:Rs) (h':Hp),Rs.normal tm h=r→jr1 r=some h'→CodeOk P c tm n h r h':=by
  intro c hc tm n h r h' e ho;subst e;have:=Option.some.inj ho;subst this;exact ⟨Nat.le_refl _,Nat.le_refl _,fun h=>h,fun _ _ _=>rfl,fun ι w a hT hW hf hB=>hc _ a w ⟨rfl,St.refl (H:=hT) hW⟩⟩
 have bad:∀{r:Rs} {h':Hp} {X:Prop},Rs.bad=r→jr1 r=some h'→X:=fun e ho=>by subst e;cases ho
 intro c
 induction c with
 | skip=>exact fun tm n h r h' _ _ e ho=>skip .skip (fun Q a w hq=>wp_skip hq) tm n h r h' e ho
 | label l=>exact fun tm n h r h' _ _ e ho=>skip (.label l) (fun Q a w hq=>wp_label hq) tm n h r h' e ho
 | region id os d=>
   intro tm n h r h' h100 hB0 e ho;have e1:(bif d then jqQ P hk self os (juO os) os.toList [] tm n h else jsB P hk self os os.toList tm n h)=r:=e;cases d with
   | true=>exact hd os id tm n h r h' h100 hB0 e1 ho
   | false=>
     obtain ⟨tm',rfl,g2,g3,g4,g5,g6⟩:=jiK hh hs os os.toList tm h r h' h100 hB0 e1 ho;exact ⟨g2,g3,g4,g5,fun ι w a hT hW hf hB=>wp_region_list (g6 ι w a _ hT hW hf hB fun a' w' hS=>⟨rfl,hS⟩)⟩
 | seq x y ihx ihy=>
   intro tm n h r h' h100 hB0 e ho;have e1:juF (je2 y P hk self) n (je2 x P hk self tm n h)=r:=e;cases hx:je2 x P hk self tm n h with
   | bad=>rw [hx] at e1;exact bad e1 ho
   | normal tm1 h1=>
     rw [hx] at e1;have e2:je2 y P hk self tm1 n h1=r:=e1;have A:=ihx tm n h _ h1 h100 hB0 hx rfl;have B:=ihy tm1 n h1 r h' (Nat.le_trans h100 A.nx) (A.bd hB0) e2 ho;refine ⟨Nat.le_trans A.nx B.nx,Nat.le_trans B.wm A.wm,fun hb=>B.bd (A.bd hb),fun id i1 i2=> ?_,fun ι w a hT hW hf hB=>wp_seq (wp_mono (jbu (A.run ι w a hT hW (hf.sub (Nat.le_refl _) B.nx) hB)) fun ex a1 w1 hp=> ?_)⟩
     ·have:=B.wm;rw [B.keep id (Nat.lt_of_lt_of_le i1 A.nx) i2,A.keep id i1 (by omega)]
     ·obtain ⟨rfl,d1,ι1,p1,p2,p3,p4⟩:=hp;exact wp_mono (jbu (B.run ι1 w1 a1 p2 p3 (hf.ext p1 A.nx) (A.bd hB))) fun ex a2 w2 hp2=>CP.of d1 p1 p4 A.nx ho B.nx B.wm hp2
   | exit i tm1 h1=>
     rw [hx] at e1;have e2:Rs.exit i tm1 h1=r:=e1;subst e2;have:=Option.some.inj ho;subst this;have A:=ihx tm n h _ h1 h100 hB0 hx rfl;refine ⟨A.nx,A.wm,A.bd,A.keep,fun ι w a hT hW hf hB=>wp_seq (wp_mono (jbu (A.run ι w a hT hW hf hB)) fun ex a1 w1 hp=> ?_)⟩;obtain ⟨rfl,hS⟩:=hp;exact ⟨rfl,hS⟩
   | ret tm1 h1=>
     rw [hx] at e1;have e2:Rs.ret tm1 h1=r:=e1;subst e2;have:=Option.some.inj ho;subst this;have A:=ihx tm n h _ h1 h100 hB0 hx rfl;refine ⟨A.nx,A.wm,A.bd,A.keep,fun ι w a hT hW hf hB=>wp_seq (wp_mono (jbu (A.run ι w a hT hW hf hB)) fun ex a1 w1 hp=> ?_)⟩;obtain ⟨rfl,hS⟩:=hp;exact ⟨rfl,hS⟩
 | cond x y z ihy ihz=>
   intro tm n h r h' h100 hB0 e ho;have e1:jsu (je2 y P hk self tm n h) (je2 z P hk self tm n h) (opd tm x)=r:=e;unfold jsu at e1;split at e1
   ·rename_i t hx
    cases t with
    | true=>
      have A:=ihy tm n h r h' h100 hB0 e1 ho;refine ⟨A.nx,A.wm,A.bd,A.keep,fun ι w a hT hW hf hB=> ?_⟩;have hv:=hT.opd hW x;rw [hx] at hv;exact wp_cond_true (VR.bool.1 hv) (jbu (A.run ι w a hT hW hf hB))
    | false=>
      have A:=ihz tm n h r h' h100 hB0 e1 ho;refine ⟨A.nx,A.wm,A.bd,A.keep,fun ι w a hT hW hf hB=> ?_⟩;have hv:=hT.opd hW x;rw [hx] at hv;exact wp_cond_false (VR.bool.1 hv) (jbu (A.run ι w a hT hW hf hB))
   ·exact bad e1 ho
 | block id x ihx=>
   intro tm n h r h' h100 hB0 e ho;have e1:jqv id (je2 x P hk self tm n h)=r:=e;cases hx:je2 x P hk self tm n h with
   | bad=>rw [hx] at e1;exact bad e1 ho
   | normal tm1 h1=>
     rw [hx] at e1;have e2:Rs.normal tm1 h1=r:=e1;subst e2;have:=Option.some.inj ho;subst this;have A:=ihx tm n h _ h1 h100 hB0 hx rfl;refine ⟨A.nx,A.wm,A.bd,A.keep,fun ι w a hT hW hf hB=>wp_block (wp_mono (jbu (A.run ι w a hT hW hf hB)) fun ex a1 w1 hp=> ?_)⟩;obtain ⟨rfl,hS⟩:=hp;exact ⟨rfl,hS⟩
   | ret tm1 h1=>
     rw [hx] at e1;have e2:Rs.ret tm1 h1=r:=e1;subst e2;have:=Option.some.inj ho;subst this;have A:=ihx tm n h _ h1 h100 hB0 hx rfl;refine ⟨A.nx,A.wm,A.bd,A.keep,fun ι w a hT hW hf hB=>wp_block (wp_mono (jbu (A.run ι w a hT hW hf hB)) fun ex a1 w1 hp=> ?_)⟩;obtain ⟨rfl,hS⟩:=hp;exact ⟨rfl,hS⟩
   | exit i tm1 h1=>
     rw [hx] at e1;have e2:(bif Nat.beq i id then Rs.normal tm1 h1 else .exit i tm1 h1)=r:=e1;have A:=ihx tm n h _ h1 h100 hB0 hx rfl;rw [jbh] at e2;by_cases hi:i=id
     ·subst hi;rw [decide_eq_true rfl] at e2;have e3:Rs.normal tm1 h1=r:=e2;subst e3;have:=Option.some.inj ho;subst this;refine ⟨A.nx,A.wm,A.bd,A.keep,fun ι w a hT hW hf hB=>wp_block (wp_mono (jbu (A.run ι w a hT hW hf hB)) fun ex a1 w1 hp=> ?_)⟩;obtain ⟨rfl,hS⟩:=hp;simp only [Exit.inBlock,if_true];exact ⟨rfl,hS⟩
     ·rw [decide_eq_false hi] at e2;have e3:Rs.exit i tm1 h1=r:=e2;subst e3;have:=Option.some.inj ho;subst this;refine ⟨A.nx,A.wm,A.bd,A.keep,fun ι w a hT hW hf hB=>wp_block (wp_mono (jbu (A.run ι w a hT hW hf hB)) fun ex a1 w1 hp=> ?_)⟩;obtain ⟨rfl,hS⟩:=hp;simp only [Exit.inBlock,if_neg hi];exact ⟨rfl,hS⟩
 | loop x ihx=>
   intro tm n h r h' h100 hB0 e ho;have e1:juF (self (.loop x)) n (je2 x P hk self tm n h)=r:=e;cases hx:je2 x P hk self tm n h with
   | bad=>rw [hx] at e1;exact bad e1 ho
   | normal tm1 h1=>
     rw [hx] at e1;have e2:self (.loop x) tm1 n h1=r:=e1;have A:=ihx tm n h _ h1 h100 hB0 hx rfl;have B:=hs (.loop x) tm1 n h1 r h' (Nat.le_trans h100 A.nx) (A.bd hB0) e2 ho;refine ⟨Nat.le_trans A.nx B.nx,Nat.le_trans B.wm A.wm,fun hb=>B.bd (A.bd hb),fun id i1 i2=> ?_,fun ι w a hT hW hf hB=> ?_⟩
     ·have:=B.wm;rw [B.keep id (Nat.lt_of_lt_of_le i1 A.nx) i2,A.keep id i1 (by omega)]
     ·intro fr k cs;obtain ⟨ex,a1,w1,hp,harr⟩:=jbu (A.run ι w a hT hW (hf.sub (Nat.le_refl _) B.nx) hB) fr (.inLoop x::k) cs;obtain ⟨rfl,d1,ι1,p1,p2,p3,p4⟩:=hp;obtain ⟨ex2,a2,w2,hp2,harr2⟩:=B.run ι1 w1 a1 p2 p3 (hf.ext p1 A.nx) (A.bd hB) fr k cs;exact ⟨ex2,a2,w2,CP.of d1 p1 p4 A.nx ho B.nx B.wm hp2, .of_steps (Steps.trans harr (.one step_inLoop)) harr2⟩
   | exit i tm1 h1=>
     rw [hx] at e1;have e2:Rs.exit i tm1 h1=r:=e1;subst e2;have:=Option.some.inj ho;subst this;have A:=ihx tm n h _ h1 h100 hB0 hx rfl;refine ⟨A.nx,A.wm,A.bd,A.keep,fun ι w a hT hW hf hB=> ?_⟩;intro fr k cs;obtain ⟨ex,a1,w1,hp,harr⟩:=jbu (A.run ι w a hT hW hf hB) fr (.inLoop x::k) cs;obtain ⟨rfl,hS⟩:=hp;exact ⟨_,a1,w1,⟨rfl,hS⟩, .pass (x:= .inLoop x) rfl (fun _ _=> .inl (by simp)) harr⟩
   | ret tm1 h1=>
     rw [hx] at e1;have e2:Rs.ret tm1 h1=r:=e1;subst e2;have:=Option.some.inj ho;subst this;have A:=ihx tm n h _ h1 h100 hB0 hx rfl;refine ⟨A.nx,A.wm,A.bd,A.keep,fun ι w a hT hW hf hB=> ?_⟩;intro fr k cs;obtain ⟨ex,a1,w1,hp,harr⟩:=jbu (A.run ι w a hT hW hf hB) fr (.inLoop x::k) cs;obtain ⟨rfl,hS⟩:=hp;exact ⟨_,a1,w1,⟨rfl,hS⟩, .pass (x:= .inLoop x) rfl (fun _ _=> .inl (by simp)) harr⟩
 | exit id=>
   intro tm n h r h' h100 hB0 e ho;have e1:Rs.exit id tm h=r:=e;subst e1;have:=Option.some.inj ho;subst this;exact ⟨Nat.le_refl _,Nat.le_refl _,fun h=>h,fun _ _ _=>rfl,fun ι w a hT hW hf hB=>wp_exit ⟨rfl,St.refl (H:=hT) hW⟩⟩
 | ret=>
   intro tm n h r h' h100 hB0 e ho;have e1:Rs.ret tm h=r:=e;subst e1;have:=Option.some.inj ho;subst this;exact ⟨Nat.le_refl _,Nat.le_refl _,fun h=>h,fun _ _ _=>rfl,fun ι w a hT hW hf hB=>wp_ret ⟨rfl,St.refl (H:=hT) hW⟩⟩
 | rangeFunc f ps x y ihx ihy=>exact fun tm n h r h' _ _ e ho=>bad e ho
 | scope x ihx=>exact fun tm n h r h' _ _ e ho=>bad e ho
 | goto l=>exact fun tm n h r h' _ _ e ho=>bad e ho
 | refuse s=>exact fun tm n h r h' _ _ e ho=>bad e ho
theorem jrK (hh:jbD P hk) (hd:∀self,jcH P self→jo8 P hk self):∀m,jcH P (ev P hk m)
 | 0=>fun c tm n h r h' _ _ e ho=>by
   have e1:Rs.bad=r:=e;subst e1;cases ho
 | m+1=>fun c tm n h r h' h100 hB0 e ho=>jox hh (jrK hh hd m) (hd _ (jrK hh hd m)) c tm n h r h' h100 hB0 e ho
end
end Go.Proofs.YtpkcjfpgemdfdaaGreatDoor.Ax
namespace Go.Proofs.YtpkcjfpgemdfdaaGreatDoor.Ax
open Go Go.RowKit
set_option linter.unusedSimpArgs false
set_option linter.unusedVariables false
section
variable {P:Program} {hk:jfr} {self:jfx} {w:World} {ι:Emb} {o:Oper} {tm tm':Tm} {h h':Hp} {v:AV} {n:Nat} {a:Act}
def Foot.has:Foot→Nat→Prop
 | .ids l,id=>id∈l
 | .all,_=>True
theorem jg6 {f g:Foot} (e:f.meets g=false) (id:Nat) (h1:f.has id) (h2:g.has id):False:=by
 cases f with
 | ids l=>cases g with
   | ids m=>
     simp only [Foot.meets,List.any_eq_false] at e;have:=e id h1;simp only [Bool.not_eq_true,List.any_eq_false] at this;have h3:=this id h2;simp at h3
   | all=>
     cases l with
     | nil=>cases h1
     | cons x l=>simp [Foot.meets] at e
 | all=>cases g with
   | ids m=>
     cases m with
     | nil=>cases h2
     | cons x l=>simp [Foot.meets] at e
   | all=>simp [Foot.meets] at e
theorem jfh {f:Foot} {lo hi:Nat} (e:f.within lo hi=false) (id:Nat) (h1:f.has id) (h2:lo≤id) (h3:id < hi):False:=by
 cases f with
 | ids l=>
   simp only [Foot.within,List.any_eq_false] at e;have:=e id h1;simp [jbw,blt_eq,h2,h3] at this
 | all=>
   simp only [Foot.within,blt_eq,decide_eq_false_iff_not] at e;omega
structure Rec where
 o:Oper
 wd:Bool
 tm:Tm
 h:Hp
 v:AV
 h2:Hp
 fx:Fx
def Rec.ch (r:Rec) (id:Nat):Prop:=r.fx.wr.has id∨(r.fx.lo≤id∧id < r.fx.hi)
open Classical in
noncomputable def jhb (r:Rec) (H:Hf):Hf:=fun id=>if r.ch id then r.h2.h.get id else H id
theorem jbX {r:Rec} {H:Hf} {id:Nat} (hc:r.ch id):jhb r H id=r.h2.h.get id:=by unfold jhb;rw [if_pos hc]
theorem jbZ {r:Rec} {H:Hf} {id:Nat} (hc:¬r.ch id):jhb r H id=H id:=by unfold jhb;rw [if_neg hc]
noncomputable def hat (b:Nat→Bool):Nat→List Rec→Hf→Hf
 | _,[],H=>H
 | k,r::R,H=>hat b (k+1) R (if b k then jhb r H else H)
theorem jcp {b b':Nat→Bool} {id:Nat}:∀(R:List Rec) (k:Nat) (H H':Hf),H id=H' id→(∀(j:Nat) (r:Rec),R[j]? =some r→b (k+j)≠b' (k+j)→¬r.ch id)→hat b k R H id=hat b' k R H' id
 | [],k,H,H',hH,_=>hH
 | r::R,k,H,H',hH,hd=>by
   refine jcp R (k+1) _ _ ?_ (fun j r' hr hb=>hd (j+1) r' (by simpa using hr) (by rwa [show k+(j+1)=k+1+j by omega]));have h0:=hd 0 r rfl;simp only [Nat.add_zero] at h0;by_cases hc:r.ch id
   ·have hbb:b k=b' k:=Classical.byContradiction fun hne=>h0 hne hc
    rw [hbb];cases b' k
    ·exact hH
    ·show jhb r H id=jhb r H' id
     rw [jbX hc,jbX hc]
   ·have e1:∀(c:Bool) (G:Hf),(if c then jhb r G else G) id=G id:=fun c G=>by
     cases c
     ·rfl
     ·exact jbZ hc
    rw [e1,e1];exact hH
theorem jkp {b:Nat→Bool} {id:Nat}:∀(R:List Rec) (k:Nat) (H:Hf) (j:Nat) (r:Rec),R[j]? =some r→b (k+j)=true→r.ch id→(∀(j':Nat) (r':Rec),j < j'→R[j']? =some r'→b (k+j')=true→¬r'.ch id)→hat b k R H id=r.h2.h.get id
 | [],k,H,j,r,hr,_,_,_=>by simp at hr
 | r0::R,k,H,0,r,hr,hb,hc,hl=>by
   have:r0=r:=by simpa using hr
   subst this
   have e1:=jcp (b:=b) (b':=fun _=>false) (id:=id) R (k+1) (if b k then jhb r0 H else H) (if b k then jhb r0 H else H) rfl (fun j r' hr' hb' hc'=>by
    refine hl (j+1) r' (by omega) (by simpa using hr') ?_ hc';rw [show k+(j+1)=k+1+j by omega]
    simpa using hb')
   have e2:∀(R:List Rec) (k:Nat) (G:Hf),hat (fun _=>false) k R G=G:=by
    intro R
    induction R with
    | nil=>intro k G;rfl
    | cons q R ih=>intro k G;exact ih (k+1) G
   have e3:hat b k (r0::R) H=hat b (k+1) R (if b k then jhb r0 H else H):=rfl;rw [e3,e1,e2,show b k=true from hb];exact jbX hc
 | r0::R,k,H,j+1,r,hr,hb,hc,hl=>by
   refine jkp R (k+1) _ j r (by simpa using hr) (by rwa [show k+1+j=k+(j+1) by omega]) hc (fun j' r' hj hr' hb'=>hl (j'+1) r' (by omega) (by simpa using hr') (by rwa [show k+(j'+1)=k+1+j' by omega]))
def jit (b:Nat→Bool):Nat→List Rec→(Nat→AV)→Nat→AV
 | _,[],V=>V
 | k,r::R,V=>jit b (k+1) R (if b k then (fun t=>if r.o.dst=some t then r.v else V t) else V)
theorem jca {b b':Nat→Bool} {t:Nat}:∀(R:List Rec) (k:Nat) (V V':Nat→AV),V t=V' t→(∀(j:Nat) (r:Rec),R[j]? =some r→b (k+j)≠b' (k+j)→r.o.dst≠some t)→jit b k R V t=jit b' k R V' t
 | [],k,V,V',hV,_=>hV
 | r::R,k,V,V',hV,hd=>by
   refine jca R (k+1) _ _ ?_ (fun j r' hr hb=>hd (j+1) r' (by simpa using hr) (by rwa [show k+(j+1)=k+1+j by omega]));have h0:=hd 0 r rfl;simp only [Nat.add_zero] at h0;by_cases hc:r.o.dst=some t
   ·have hbb:b k=b' k:=Classical.byContradiction fun hne=>h0 hne hc
    rw [hbb];cases b' k
    ·exact hV
    ·show (if r.o.dst=some t then r.v else V t)=(if r.o.dst=some t then r.v else V' t)
     rw [if_pos hc,if_pos hc]
   ·have e1:∀(c:Bool) (G:Nat→AV),(if c then (fun t=>if r.o.dst=some t then r.v else G t) else G) t=G t:=fun c G=>by
     cases c
     ·rfl
     ·exact if_neg hc
    rw [e1,e1];exact hV
theorem jjZ {b:Nat→Bool} {t:Nat}:∀(R:List Rec) (k:Nat) (V:Nat→AV) (j:Nat) (r:Rec),R[j]? =some r→b (k+j)=true→r.o.dst=some t→(∀(j':Nat) (r':Rec),j < j'→R[j']? =some r'→b (k+j')=true→r'.o.dst≠some t)→jit b k R V t=r.v
 | [],k,V,j,r,hr,_,_,_=>by simp at hr
 | r0::R,k,V,0,r,hr,hb,hc,hl=>by
   have:r0=r:=by simpa using hr
   subst this
   have e1:=jca (b:=b) (b':=fun _=>false) (t:=t) R (k+1) (if b k then (fun t=>if r0.o.dst=some t then r0.v else V t) else V) (if b k then (fun t=>if r0.o.dst=some t then r0.v else V t) else V) rfl (fun j r' hr' hb' hc'=>by
    refine hl (j+1) r' (by omega) (by simpa using hr') ?_ hc';rw [show k+(j+1)=k+1+j by omega]
    simpa using hb')
   have e2:∀(R:List Rec) (k:Nat) (G:Nat→AV),jit (fun _=>false) k R G=G:=by
    intro R
    induction R with
    | nil=>intro k G;rfl
    | cons q R ih=>intro k G;exact ih (k+1) G
   have e3:jit b k (r0::R) V=jit b (k+1) R (if b k then (fun t=>if r0.o.dst=some t then r0.v else V t) else V):=rfl;rw [e3,e1,e2,show b k=true from hb];exact if_pos hc
 | r0::R,k,V,j+1,r,hr,hb,hc,hl=>by
   refine jjZ R (k+1) _ j r (by simpa using hr) (by rwa [show k+1+j=k+(j+1) by omega]) hc (fun j' r' hj hr' hb'=>hl (j'+1) r' (by omega) (by simpa using hr') (by rwa [show k+(j'+1)=k+1+j' by omega]))
theorem WR.on {H H':Hf} (hW:WR ι H w) (hh:∀id,ι id≠none→∀b,H' id=some b→H id=some b):WR ι H' w:=by
 have ne:∀{id l},ι id=some l→ι id≠none:=fun e=>by rw [e];simp
 exact ⟨hW.gl,fun id l b e h=>hW.lt id l b e (hh _ (ne e) _ h),fun id l b e h=>hW.blk id l b e (hh _ (ne e) _ h),fun id id' l l' b b' hne e e' h h'=>hW.inj id id' l l' b b' hne e e' (hh _ (ne e) _ h) (hh _ (ne e') _ h')⟩
theorem WR.merge {ι':Emb} {H G:Hf} {w':World} {lo hi wm:Nat} (hW:WR ι H w) (hG:WR ι' G w') (hf:jdR ι lo hi) (he:Ext ι ι' lo hi wm w) (hF:Fr ι wm lo w w') (hwm:lo≤wm):WR ι' (fun id=>if lo≤id∧id < hi then G id else H id) w':=by
 have hle:=he.le hf;have keep:∀B,B < w.heap.size→w'.heap[B]? =w.heap[B]? :=fun B hB=>hF.keep B hB (fun id l h1 h2 _=>by omega)
 have old:∀id,¬(lo≤id∧id < hi)→∀l,ι' id=some l→ι id=some l:=fun id hid l e=>by rw [←he.same id hid];exact e
 have new:∀id l,lo≤id→id < hi→ι' id=some l→w.heap.size≤l.b:=fun id l h1 h2 e=>by
  rcases he.new id l h1 h2 e with h|⟨id0,l0,d1,d2,_⟩
  ·exact h
  ·omega
 refine ⟨hG.gl,fun id l b e h=> ?_,fun id l b e h=> ?_,fun id id' l l' b b' hne e e' h h' l1 l2=> ?_⟩
 ·by_cases hc:lo≤id∧id < hi
  ·simp only [if_pos hc] at h;exact hG.lt id l b e h
  ·simp only [if_neg hc] at h;exact Nat.lt_of_lt_of_le (hW.lt id l b (old id hc l e) h) hF.size
 ·by_cases hc:lo≤id∧id < hi
  ·simp only [if_pos hc] at h;exact hG.blk id l b e h
  ·simp only [if_neg hc] at h;have e1:=old id hc l e;exact jiZ.mono hle (keep _ (hW.lt id l b e1 h)) (hW.blk id l b e1 h)
 ·by_cases hc:lo≤id∧id < hi
  ·simp only [if_pos hc] at h;by_cases hc':lo≤id'∧id' < hi
   ·simp only [if_pos hc'] at h';exact hG.inj id id' l l' b b' hne e e' h h' l1 l2
   ·simp only [if_neg hc'] at h';have h1:=hW.lt id' l' b' (old id' hc' l' e') h';have h2:=new id l hc.1 hc.2 e;omega
  ·simp only [if_neg hc] at h;have e1:=old id hc l e;by_cases hc':lo≤id'∧id' < hi
   ·have h1:=hW.lt id l b e1 h;have h2:=new id' l' hc'.1 hc'.2 e';omega
   ·simp only [if_neg hc'] at h';exact hW.inj id id' l l' b b' hne e1 (old id' hc' l' e') h h' l1 l2
structure RecOk (P:Program) (all:Array Oper) (r:Rec):Prop where
 lo:r.fx.lo=r.h.nx
 hi:r.fx.hi=r.h2.nx
 le:r.h.nx≤r.h2.nx
 same:∀id,¬r.ch id→r.h2.h.get id=r.h.h.get id
 wrrd:∀id,r.fx.wr.has id→r.fx.rd.has id
 bd:Bd r.h
 bd2:Bd r.h2
 want:want all r.tm r.o=some r.wd
 off:r.wd=false→r.v= .tup []∧r.h2=r.h∧r.fx.wr= .ids []
 run:r.wd=true→∀(ι:Emb) (H:Hf) (w:World) (a:Act),WR ι H w→jdR ι r.h.nx r.h2.nx→Opr ι r.tm a r.o→(∀id,r.fx.rd.has id→ι id≠none→∀b,r.h.h.get id=some b→H id=some b)→
  Gives P ((execOp a.eval r.o).run P w) (jer ι (jhb r H) r.h.nx r.h2.nx r.h2.wm w r.v)
theorem Gives.mono {r:Result Next} {K K':Value→World→Prop} (hg:Gives P r K) (hk:∀v w,K v w→K' v w):Gives P r K':=by
 cases r with
 | halt x w=>exact hg.elim
 | ok nx w=>
   cases nx with
   | value v=>exact hk _ _ hg
   | skip=>exact hk _ _ hg
   | enter f args=>exact Calls.mono hg fun e w' ⟨v,he,hv⟩=>⟨v,he,hk _ _ hv⟩
   | _=>exact hg.elim
theorem jvf {all:Array Oper} (hh:jbD P hk) (hs:jcH P self) (h100:100≤h.nx) (hB:Bd h) (hw:want all tm o=some true) {h2:Hp} (e:one P hk self o tm (hpW h jdk)= .val v h2):RecOk P all ⟨o,true,tm,h,v,h2,jbK o tm h.nx h2⟩:=by
 have e1:juX P hk self o.op (aop o.op P tm (hpW h jdk)) (hpW h jdk)= .val v h2:=e;have hB':Bd (hpW h jdk):=hB;cases ha:aop o.op P tm (hpW h jdk) with
 | bad=>rw [ha] at e1;cases e1
 | val v1 h1=>
   rw [ha] at e1;obtain ⟨rfl,rfl⟩:=val_inj (show Ro.val v1 h1=Ro.val v h2 from e1);obtain ⟨rd,wr,hft,hO,hsub⟩:=jqH ha;have hfo:jbK o tm h.nx h1=⟨.ids rd, .ids wr,h.nx,h1.nx⟩:=by simp only [jbK,hft]
   have hch:∀id,Rec.ch ⟨o,true,tm,h,v1,h1,jbK o tm h.nx h1⟩ id↔(id∈wr∨(h.nx≤id∧id < h1.nx)):=fun id=>by unfold Rec.ch;rw [hfo];exact Iff.rfl
   refine ⟨by rw [hfo],by rw [hfo],hO.nx,fun id hc=> ?_,fun id hc=> ?_,hB,hO.bd hB',hw,fun h=>(by cases h),fun _ ι H w a hW hf ho hA=> ?_⟩
   ·rw [hch] at hc;exact hO.only id (fun h=>hc (.inl h)) (fun h=>hc (.inr h))
   ·rw [hfo] at hc ⊢;exact hsub id hc
   ·rw [hfo] at hA;have hWp:WR ι (fun id=>if ι id=none then h.h.get id else H id) w:=hW.on fun id hne b hb=>by simp only [if_neg hne] at hb;exact hb
    have hr:=hO.run ι (fun id=>if ι id=none then h.h.get id else H id) (jhb ⟨o,true,tm,h,v1,h1,jbK o tm h.nx h1⟩ (fun id=>if ι id=none then h.h.get id else H id)) w a hWp hf ho (fun id hid b hb=>by
     by_cases hn:ι id=none
     ·simp only [if_pos hn];exact hb
     ·simp only [if_neg hn];exact hA id hid hn b hb) hB' (fun id hid=>jbX ((hch id).2 hid)) (fun id hi1 hi2=>jbZ (fun hc=>by
      rcases (hch id).1 hc with h|h
      ·exact hi1 h
      ·exact hi2 h))
    refine hr.mono fun vc w' hP=> ?_
    obtain ⟨ι',p1,p2,p3,p4⟩:=hP;refine ⟨ι',p1,p2,p3.on fun id hne b hb=> ?_,p4⟩;by_cases hc:Rec.ch ⟨o,true,tm,h,v1,h1,jbK o tm h.nx h1⟩ id
    ·rw [jbX hc] at hb ⊢;exact hb
    ·rw [jbZ hc] at hb ⊢;have hid:¬(h.nx≤id∧id < h1.nx):=fun hq=>hc ((hch id).2 (.inr hq))
     have:ι id≠none:=by rw [←p1.same id hid];exact hne
     simp only [if_neg this];exact hb
 | enter f args=>
   rw [ha] at e1;have e2:(bif js5 o.op then call P hk self f args (hpW h jdk) else .bad)= .val v h2:=e1;cases hfn:js5 o.op with
   | false=>rw [hfn] at e2;cases e2
   | true=>
     rw [hfn] at e2;have hC:=jiP hh hs (show 100≤(hpW h jdk).nx from h100) hB' (show call P hk self f args (hpW h jdk)= .val v h2 from e2);obtain ⟨hft,hE⟩:=jhd ha hfn;have hfo:jbK o tm h.nx h2=⟨.all,bif Nat.blt h2.wm h.nx then .all else .ids [],h.nx,h2.nx⟩:=by simp only [jbK,hft]
     rw [blt_eq] at hfo;have hkeep:∀id,id < h.nx→id < h2.wm→h2.h.get id=h.h.get id:=hC.keep;have hnx:h.nx≤h2.nx:=hC.nx
     have none_of:∀{g:Hp},Bd g→∀id,g.nx≤id→g.h.get id=none:=fun {g} hb id hid=>by
      cases hq:g.h.get id with
      | none=>rfl
      | some b=>have:=hb id b hq;omega
     by_cases hwr:h2.wm < h.nx
     ·rw [decide_eq_true hwr] at hfo;have hch:∀id,Rec.ch ⟨o,true,tm,h,v,h2,jbK o tm h.nx h2⟩ id:=fun id=> .inl (by rw [hfo];trivial)
      refine ⟨by rw [hfo],by rw [hfo],hnx,fun id hc=>absurd (hch id) hc,fun id _=>by rw [hfo];trivial,hB,hC.bd hB',hw,fun h=>(by cases h),fun _ ι H w a hW hf ho hA=> ?_⟩;obtain ⟨vals,k1,k2⟩:=hE ι a ho;rw [k2];refine (hC.run ι w vals k1 (hW.on fun id hne b hb=>hA id (by rw [hfo];trivial) hne b hb) hf hB').mono fun vc w' hP=> ?_
      obtain ⟨ι',p1,p2,p3,p4⟩:=hP;exact ⟨ι',p1,p2,p3.on fun id _ b hb=>by rw [jbX (hch id)] at hb;exact hb,p4⟩
     ·rw [decide_eq_false hwr] at hfo
      have hch:∀id,Rec.ch ⟨o,true,tm,h,v,h2,jbK o tm h.nx h2⟩ id↔(h.nx≤id∧id < h2.nx):=fun id=>by
       unfold Rec.ch;rw [hfo];constructor
       ·rintro (h|h)
        ·cases h
        ·exact h
       ·exact .inr
      refine ⟨by rw [hfo],by rw [hfo],hnx,fun id hc=> ?_,fun id hc=>(by rw [hfo] at hc;cases hc),hB,hC.bd hB',hw,fun h=>(by cases h),fun _ ι H w a hW hf ho hA=> ?_⟩
      ·rw [hch] at hc;by_cases hid:id < h.nx
       ·exact hkeep id hid (by omega)
       ·show h2.h.get id=h.h.get id
        rw [none_of (hC.bd hB') id (by omega),none_of hB id (by omega)]
      ·obtain ⟨vals,k1,k2⟩:=hE ι a ho;rw [k2];refine (hC.run ι w vals k1 (hW.on fun id hne b hb=>hA id (by rw [hfo];trivial) hne b hb) hf hB').mono fun vc w' hP=> ?_
       obtain ⟨ι',p1,p2,p3,p4⟩:=hP;refine ⟨ι',p1,p2,(WR.merge hW p3 hf p1 p4 (by show h.nx≤h2.wm;omega)).on fun id _ b hb=> ?_,p4⟩;by_cases hc:h.nx≤id∧id < h2.nx
       ·rw [jbX ((hch id).2 hc)] at hb;show (if h.nx≤id∧id < h2.nx then h2.h.get id else H id)=some b
        rw [if_pos hc];exact hb
       ·rw [jbZ (fun hq=>hc ((hch id).1 hq))] at hb;show (if h.nx≤id∧id < h2.nx then h2.h.get id else H id)=some b
        rw [if_neg hc];exact hb
end
end Go.Proofs.YtpkcjfpgemdfdaaGreatDoor.Ax
namespace Go.Proofs.YtpkcjfpgemdfdaaGreatDoor.Ax
open Go Go.RowKit
set_option linter.unusedSimpArgs false
set_option linter.unusedVariables false
section
variable {P:Program} {hk:jfr} {self:jfx} {w:World} {ι:Emb} {o:Oper} {tm tm':Tm} {h h':Hp} {v:AV} {n:Nat} {a:Act} {all:Array Oper}
inductive Trc (P:Program) (hk:jfr) (self:jfx) (all:Array Oper) (n:Nat):List Oper→Tm→Hp→List Rec→Tm→Hp→Prop where
 | nil {tm:Tm} {h:Hp}:Trc P hk self all n [] tm h [] tm h
 | off {o:Oper} {l:List Oper} {tm tm1 tm':Tm} {h h':Hp} {R:List Rec} (hw:want all tm o=some false) (hp:put n tm o.dst (.tup [])=some tm1) (ht:Trc P hk self all n l tm1 h R tm' h'):
    Trc P hk self all n (o::l) tm h (⟨o,false,tm,h, .tup [],h,⟨.ids [], .ids [],h.nx,h.nx⟩⟩::R) tm' h'
 | on {o:Oper} {l:List Oper} {tm tm1 tm':Tm} {h h2 h':Hp} {v:AV} {R:List Rec} (hw:want all tm o=some true) (he:one P hk self o tm (hpW h jdk)= .val v h2) (hp:put n tm o.dst v=some tm1) (ht:Trc P hk self all n l tm1 (jm1 h.wm h2) R tm' h'):
    Trc P hk self all n (o::l) tm h (⟨o,true,tm,h,v,h2,jbK o tm h.nx h2⟩::R) tm' h'
theorem jgG {fin:List Fx→Tm→Nat→Hp→Rs}:∀(l:List Oper) (fx:List Fx) (tm:Tm) (h:Hp) (r:Rs) (h':Hp),jqQ P hk self all fin l fx tm n h=r→jr1 r=some h'→
  ∃R tm' h1,Trc P hk self all n l tm h R tm' h1∧fin ((R.map (·.fx)).reverse++fx) tm' n h1=r
 | [],fx,tm,h,r,h',e,ho=>⟨[],tm,h, .nil,e⟩
 | o::l,fx,tm,h,r,h',e,ho=>by
   have e1:jtj P hk self o (jqQ P hk self all fin l) fx tm n h (want all tm o)=r:=e;cases hw:want all tm o with
   | none=>rw [hw] at e1;have:Rs.bad=r:=e1;subst this;cases ho
   | some b=>
     rw [hw] at e1;cases b with
     | false=>
       have e2:(match put n tm o.dst (.tup []) with|some tm'=>jqQ P hk self all fin l (⟨.ids [], .ids [],h.nx,h.nx⟩::fx) tm' n h|none=> .bad)=r:=e1;split at e2
       ·rename_i tm1 hp
        obtain ⟨R,tm',h1,ht,hf⟩:=jgG l _ tm1 h r h' e2 ho;exact ⟨_,tm',h1, .off hw hp ht,by simpa using hf⟩
       ·subst e2;cases ho
     | true=>
       have e2:goD (jqQ P hk self all fin l) fx o tm n h (one P hk self o tm (hpW h jdk))=r:=e1;cases h1:one P hk self o tm (hpW h jdk) with
       | bad=>rw [h1] at e2;have:Rs.bad=r:=e2;subst this;cases ho
       | enter f args=>rw [h1] at e2;have:Rs.bad=r:=e2;subst this;cases ho
       | val v h2=>
         rw [h1] at e2;have e3:(match put n tm o.dst v with|some tm'=>jqQ P hk self all fin l (jbK o tm h.nx h2::fx) tm' n (jm1 h.wm h2)|none=> .bad)=r:=e2;split at e3
         ·rename_i tm1 hp
          obtain ⟨R,tm',h1',ht,hf⟩:=jgG l _ tm1 _ r h' e3 ho;exact ⟨_,tm',h1', .on hw h1 hp ht,by simpa using hf⟩
         ·subst e3;cases ho
theorem jpB (w:Nat) (h:Hp):(jm1 w h).wm≤w∧(jm1 w h).wm≤h.wm:=by
 show (bif Nat.ble w h.wm then w else h.wm)≤w∧(bif Nat.ble w h.wm then w else h.wm)≤h.wm
 rw [jbw];by_cases hc:w≤h.wm
 ·rw [decide_eq_true hc];exact ⟨Nat.le_refl _,hc⟩
 ·rw [decide_eq_false hc];exact ⟨by simp only [cond_false];omega,Nat.le_refl _⟩
theorem juu {d:Nat} (e:put n tm (some d) v=some tm'):d < n:=by
 rcases jnK e with ⟨h,_⟩|⟨k,h,h2,_⟩
 ·cases h
 ·have:=Option.some.inj h;subst this;exact h2
theorem jsK {d:Option Nat} (e:put n tm d v=some tm') (t:Nat):jd0 tm' t=if d=some t then v else jd0 tm t:=by
 rcases jnK e with ⟨rfl,rfl⟩|⟨k,rfl,_,rfl⟩
 ·simp
 ·rw [jkj];by_cases hc:t=k
  ·subst hc;simp
  ·rw [if_neg hc,if_neg (fun h=>hc (Option.some.inj h).symm)]
theorem jv2 (hB:Bd h) (hw:want all tm o=some false):RecOk P all ⟨o,false,tm,h, .tup [],h,⟨.ids [], .ids [],h.nx,h.nx⟩⟩:=
 ⟨rfl,rfl,Nat.le_refl _,fun _ _=>rfl,fun _ h=>h,hB,hB,hw,fun _=>⟨rfl,rfl,rfl⟩,fun h=>by cases h⟩
structure TrcOk (P:Program) (all:Array Oper) (n:Nat) (l:List Oper) (tm:Tm) (h:Hp) (R:List Rec) (tm':Tm) (h':Hp):Prop where
 len:R.length=l.length
 at_:∀(j:Nat) (r:Rec),R[j]? =some r→l[j]? =some r.o∧RecOk P all r∧h.nx≤r.h.nx∧r.h2.nx≤h'.nx∧h'.wm≤r.h2.wm∧(∀d,r.o.dst=some d→d < n)
 nx:h.nx≤h'.nx
 wm:h'.wm≤h.wm
 bd:Bd h'
 keep:∀id,id < h.nx→id < h'.wm→h'.h.get id=h.h.get id
 iv:∀(i j:Nat) (r s:Rec),i < j→R[i]? =some r→R[j]? =some s→r.h2.nx≤s.h.nx
 heap:∀(k j:Nat) (r:Rec),R[j]? =some r→∀id,r.h.h.get id=hat (fun m=>decide (m < k+j)) k R h.h.get id
 fin:∀(k:Nat) id,h'.h.get id=hat (fun _=>true) k R h.h.get id
 tms:∀(k j:Nat) (r:Rec),R[j]? =some r→∀t,jd0 r.tm t=jit (fun m=>decide (m < k+j)) k R (jd0 tm) t
 ftm:∀(k:Nat) t,jd0 tm' t=jit (fun _=>true) k R (jd0 tm) t
theorem jiA:∀(R:List Rec) (k:Nat) (G:Hf) (b:Nat→Bool),(∀j,b (k+j)=false)→hat b k R G=G
 | [],k,G,b,_=>rfl
 | r::R,k,G,b,hb=>by
   have h0:b k=false:=by have:=hb 0;simpa using this
   show hat b (k+1) R (if b k then jhb r G else G)=G
   rw [h0];exact jiA R (k+1) G b (fun j=>by have:=hb (j+1);rwa [show k+(j+1)=k+1+j by omega] at this)
theorem jjo:∀(R:List Rec) (k:Nat) (G:Nat→AV) (b:Nat→Bool),(∀j,b (k+j)=false)→jit b k R G=G
 | [],k,G,b,_=>rfl
 | r::R,k,G,b,hb=>by
   have h0:b k=false:=by have:=hb 0;simpa using this
   show jit b (k+1) R (if b k then (fun t=>if r.o.dst=some t then r.v else G t) else G)=G
   rw [h0];exact jjo R (k+1) G b (fun j=>by have:=hb (j+1);rwa [show k+(j+1)=k+1+j by omega] at this)
theorem TrcOk.cons {l:List Oper} {tm1:Tm} {h1:Hp} {R:List Rec} {r:Rec} (hr:RecOk P all r) (ro:r.o=o) (rt:r.tm=tm) (rh:r.h=h) (hT:TrcOk P all n l tm1 h1 R tm' h') (e1:h1.h=r.h2.h) (e2:h1.nx=r.h2.nx) (e3:h1.wm≤h.wm) (e4:h1.wm≤r.h2.wm)
  (hp:put n tm o.dst r.v=some tm1) (hkp:∀id,id < h.nx→id < h1.wm→r.h2.h.get id=h.h.get id):TrcOk P all n (o::l) tm h (r::R) tm' h':=by
 subst ro;subst rt;subst rh
 have hg:h1.h.get=jhb r r.h.h.get:=by
  funext id
  rw [e1];by_cases hc:r.ch id
  ·rw [jbX hc]
  ·rw [jbZ hc,hr.same id hc]
 have hv:jd0 tm1=fun t=>if r.o.dst=some t then r.v else jd0 r.tm t:=funext fun t=>jsK hp t
 have hle:r.h.nx≤h1.nx:=by rw [e2];exact hr.le
 refine ⟨by simp [hT.len],fun j s hs=> ?_,Nat.le_trans hle hT.nx,Nat.le_trans hT.wm e3,hT.bd,fun id i1 i2=> ?_,fun i j s u hij hs hu=> ?_,fun k j s hs id=> ?_,fun k id=> ?_,fun k j s hs t=> ?_,fun k t=> ?_⟩
 ·cases j with
  | zero=>
    have:r=s:=by simpa using hs
    subst this;refine ⟨rfl,hr,Nat.le_refl _,by rw [←e2];exact hT.nx,Nat.le_trans hT.wm e4,fun d hd=> ?_⟩;rw [hd] at hp;exact juu hp
  | succ j=>
    obtain ⟨a1,a2,a3,a4,a5,a6⟩:=hT.at_ j s (by simpa using hs);exact ⟨by simpa using a1,a2,Nat.le_trans hle a3,a4,a5,a6⟩
 ·have:=hT.wm;rw [hT.keep id (by omega) i2,e1];exact hkp id i1 (by omega)
 ·cases j with
  | zero=>omega
  | succ j=>
    cases i with
    | zero=>
      have:r=s:=by simpa using hs
      subst this;obtain ⟨_,_,a3,_⟩:=hT.at_ j u (by simpa using hu);rw [←e2];exact a3
    | succ i=>exact hT.iv i j s u (by omega) (by simpa using hs) (by simpa using hu)
 ·cases j with
  | zero=>
    have:r=s:=by simpa using hs
    subst this;rw [jiA _ k _ _ (fun j=>by simp)]
  | succ j=>
    rw [hT.heap (k+1) j s (by simpa using hs) id,hg];show _=hat (fun m=>decide (m < k+(j+1))) (k+1) R (if decide (k < k+(j+1)) then jhb r r.h.h.get else r.h.h.get) id
    rw [if_pos (by simp),show k+(j+1)=k+1+j by omega]
 ·rw [hT.fin (k+1) id,hg];rfl
 ·cases j with
  | zero=>
    have:r=s:=by simpa using hs
    subst this;rw [jjo _ k _ _ (fun j=>by simp)]
  | succ j=>
    rw [hT.tms (k+1) j s (by simpa using hs) t,hv];show _=jit (fun m=>decide (m < k+(j+1))) (k+1) R (if decide (k < k+(j+1)) then (fun t=>if r.o.dst=some t then r.v else jd0 r.tm t) else jd0 r.tm) t
    rw [if_pos (by simp),show k+(j+1)=k+1+j by omega]
 ·rw [hT.ftm (k+1) t,hv];rfl
theorem jt8 (hh:jbD P hk) (hs:jcH P self):∀{l:List Oper} {tm:Tm} {h:Hp} {R:List Rec} {tm':Tm} {h':Hp},Trc P hk self all n l tm h R tm' h'→100≤h.nx→Bd h→TrcOk P all n l tm h R tm' h':=by
 intro l tm h R tm' h' ht
 induction ht with
 | nil=>
   intro _ hB;exact ⟨rfl,fun j r hr=>by simp at hr,Nat.le_refl _,Nat.le_refl _,hB,fun _ _ _=>rfl,fun i j r s _ hr=>by simp at hr,fun k j r hr=>by simp at hr,fun _ _=>rfl,fun k j r hr=>by simp at hr,fun _ _=>rfl⟩
 | off hw hp ht ih=>
   intro h100 hB;exact (ih h100 hB).cons (jv2 hB hw) rfl rfl rfl rfl rfl (Nat.le_refl _) (Nat.le_refl _) hp (fun _ _ _=>rfl)
 | on hw he hp ht ih=>
   intro h100 hB
   rename_i o l tm tm1 tm' h h2 h' v R
   have hO:=jqA hh hs (show 100≤(hpW h jdk).nx from h100) (show Bd (hpW h jdk) from hB) he;have hm:=jpB h.wm h2;exact (ih (Nat.le_trans h100 hO.nx) (hO.bd hB)).cons (jvf hh hs h100 hB hw he) rfl rfl rfl rfl rfl hm.1 hm.2 hp (fun id i1 i2=>hO.keep id i1 (Nat.lt_of_lt_of_le i2 hm.2))
end
end Go.Proofs.YtpkcjfpgemdfdaaGreatDoor.Ax
namespace Go.Proofs.YtpkcjfpgemdfdaaGreatDoor.Ax
open Go Go.RowKit
set_option linter.unusedSimpArgs false
set_option linter.unusedVariables false
section
theorem jjA (X:Nat→Nat):∀(es:List Edge) (s i:Nat),Nat.testBit (es.foldl (fun s e=>bif Region.binds .any e then Nat.lor s (Nat.lor (Nat.pow 2 e.on) (X e.on)) else s) s) i=true→
  Nat.testBit s i=true∨∃e∈es,Region.binds .any e=true∧(i=e.on∨Nat.testBit (X e.on) i=true)
 | [],s,i,h=> .inl h
 | e::es,s,i,h=>by
   rw [List.foldl_cons] at h;rcases jjA X es _ i h with h1|⟨e',he,hb⟩
   ·cases hb:Region.binds .any e with
    | false=>rw [hb] at h1;exact .inl h1
    | true=>
      rw [hb] at h1;have h2:Nat.testBit (s ||| (2^e.on ||| X e.on)) i=true:=h1;rw [Nat.testBit_or,Nat.testBit_or,Nat.testBit_two_pow] at h2;simp only [Bool.or_eq_true,decide_eq_true_eq] at h2;rcases h2 with h2|h2|h2
      ·exact .inl h2
      ·exact .inr ⟨e,by simp,hb, .inl h2.symm⟩
      ·exact .inr ⟨e,by simp,hb, .inr h2⟩
   ·exact .inr ⟨e',by simp [he],hb⟩
theorem jgK:∀(l:List Oper) (acc:List Nat) (j:Nat),j < acc.length→(jfs l acc)[j]? =acc.reverse[j]?
 | [],acc,j,h=>rfl
 | o::l,acc,j,h=>by
   show (jfs l (_::acc))[j]? =_
   rw [jgK l _ j (by simp;omega),List.reverse_cons,List.getElem?_append_left (by simpa using h)]
theorem jiC:∀(l:List Oper) (acc:List Nat) (j:Nat) (o:Oper),l[j]? =some o→∀i,Nat.testBit ((jfs l acc).getD (acc.length+j) 0) i=true→
  ∃e∈o.after.toList,Region.binds .any e=true∧(i=e.on∨(e.on < acc.length+j∧Nat.testBit ((jfs l acc).getD e.on 0) i=true))
 | [],acc,j,o,h,_,_=>by simp at h
 | q::l,acc,0,o,h,i,hi=>by
   have:q=o:=by simpa using h
   subst this
   have hA:(jfs (q::l) acc)[acc.length]? =some (q.after.toList.foldl (fun s e=>bif Region.binds .any e then Nat.lor s (Nat.lor (Nat.pow 2 e.on) (acc.reverse.getD e.on 0)) else s) 0):=by
    show (jfs l (_::acc))[acc.length]? =_
    rw [jgK l _ _ (by simp),List.reverse_cons,List.getElem?_append_right (by simp)];simp
   rw [Nat.add_zero,List.getD_eq_getElem?_getD,hA,Option.getD_some] at hi;rcases jjA (fun x=>acc.reverse.getD x 0) _ _ _ hi with h2|⟨e,he,hb,h3⟩
   ·simp at h2
   ·refine ⟨e,he,hb, ?_⟩;rcases h3 with h3|h3
    ·exact .inl h3
    ·right
     have hlt:e.on < acc.length:=by
      rcases Nat.lt_or_ge e.on acc.length with h|h
      ·exact h
      ·rw [List.getD_eq_getElem?_getD,List.getElem?_eq_none (by simpa using h)] at h3;simp at h3
     refine ⟨by omega, ?_⟩;rw [List.getD_eq_getElem?_getD,jgK _ acc e.on hlt,←List.getD_eq_getElem?_getD];exact h3
 | q::l,acc,j+1,o,h,i,hi=>by
   have h1:=jiC l ((q.after.toList.foldl (fun s e=>bif Region.binds .any e then Nat.lor s (Nat.lor (Nat.pow 2 e.on) (acc.reverse.getD e.on 0)) else s) 0)::acc) j o (by simpa using h) i;have e:(q.after.toList.foldl (fun s e=>bif Region.binds .any e then Nat.lor s (Nat.lor (Nat.pow 2 e.on) (acc.reverse.getD e.on 0)) else s) 0::acc).length+j=acc.length+(j+1):=by simp;omega
   rw [e] at h1;exact h1 hi
theorem jhM:∀(seen:List Fx) (a k:Nat) (f:Fx),(List.rec (motive:=fun _=>Nat→Bool) (fun _=>true) (fun g _ ih k=>bif Nat.testBit a k || !jjs f g then ih (Nat.succ k) else false) seen k:Bool)=true→
  ∀(i:Nat) (g:Fx),seen[i]? =some g→Nat.testBit a (k+i)=true∨jjs f g=false
 | [],a,k,f,_,i,g,h=>by simp at h
 | s::seen,a,k,f,h,i,g,hg=>by
   have h':(bif Nat.testBit a k || !jjs f s then (List.rec (motive:=fun _=>Nat→Bool) (fun _=>true) (fun g _ ih k=>bif Nat.testBit a k || !jjs f g then ih (Nat.succ k) else false) seen (k+1):Bool) else false)=true:=h;cases hc:(Nat.testBit a k || !jjs f s) with
   | false=>rw [hc] at h';cases h'
   | true=>
     rw [hc] at h';cases i with
     | zero=>
       have:s=g:=by simpa using hg
       subst this;simpa using hc
     | succ i=>
       have:=jhM seen a (k+1) f h' i g (by simpa using hg);rwa [show k+(i+1)=k+1+i by omega]
theorem jfO:∀(as_:List Nat) (fs seen:List Fx),jdA as_ fs seen=true→fs.length≤as_.length→∀(j:Nat) (f:Fx),fs[j]? =some f→∀(i:Nat) (g:Fx),(seen++fs)[i]? =some g→i < seen.length+j→
  Nat.testBit (as_.getD j 0) i=true∨jjs f g=false
 | [],fs,seen,_,hl,j,f,hf,_,_,_,_=>by
   have:fs=[]:=List.length_eq_zero_iff.1 (by simpa using hl);subst this;simp at hf
 | x::as_,[],seen,_,_,j,f,hf,_,_,_,_=>by simp at hf
 | x::as_,q::fs,seen,h,hl,j,f,hf,i,g,hg,hi=>by
   have h':(jqD x q seen && jdA as_ fs (seen++[q]))=true:=h;simp only [Bool.and_eq_true] at h';cases j with
   | zero=>
     have:q=f:=by simpa using hf
     subst this;have hg':seen[i]? =some g:=by rwa [List.getElem?_append_left (by omega)] at hg
     have:=jhM seen x 0 q h'.1 i g hg';simpa using this
   | succ j=>
     have:=jfO as_ fs (seen++[q]) h'.2 (by simpa using hl) j f (by simpa using hf) i g (by simpa using hg) (by simp;omega);simpa using this
theorem jkf:∀(l:List Oper) (acc:List Nat),(jfs l acc).length=acc.length+l.length
 | [],acc=>by simp [jfs]
 | o::l,acc=>by
   show (jfs l (_::acc)).length=_
   rw [jkf l];simp only [List.length_cons];omega
variable {ops:Array Oper} {A:List Nat}
theorem jnx (h:flow ops A=true):
  (∀(j:Nat) (o:Oper),ops[j]? =some o→∀e∈o.after.toList,Region.binds .any e=true→e.on < j)∧
  (∀(i j:Nat) (o q:Oper) (d:Nat),ops[i]? =some o→ops[j]? =some q→o.dst=some d→i≠j→q.dst≠some d∧
    ((d∈jfF q∨∃g c,q.guard=some (g,c)∧jeh ops g=some d)→Nat.testBit (A.getD j 0) i=true∨Nat.testBit (A.getD i 0) j=true)):=by
 have mem:∀{j:Nat} {o:Oper},ops[j]? =some o→(o,j)∈ops.toList.zipIdx:=fun {j o} ho=>by
  rw [List.mem_zipIdx_iff_getElem?];simpa using ho
 unfold flow at h;simp only [Bool.and_eq_true,List.all_eq_true] at h;refine ⟨fun j o ho e he hb=> ?_,fun i j o q d ho hq hd hij=> ?_⟩
 ·have:=h.1 (o,j) (mem ho) e he;rw [hb] at this;simpa [blt_eq] using this
 ·have h1:=h.2 (o,i) (mem ho);simp only [hd,List.all_eq_true] at h1;have h2:=h1 (q,j) (mem hq);simp only [jbh,decide_eq_false hij,Bool.false_or,Bool.and_eq_true,Bool.not_eq_true'] at h2;refine ⟨fun hqd=> ?_,fun hu=> ?_⟩
  ·rw [hqd] at h2;simp at h2
  ·have h3:=h2.2;simp only [Bool.or_eq_true,Bool.not_eq_true',Bool.or_eq_false_iff] at h3;rcases h3 with (h3|h3)|h3
   ·exfalso;rcases hu with hu|⟨g,c,hg,hgd⟩
    ·have h4:=h3.1;rw [List.any_eq_false] at h4;exact h4 d hu (by simp)
    ·have h4:=h3.2;rw [hg] at h4;simp only [hgd] at h4;simp at h4
   ·exact .inl h3
   ·exact .inr h3
end
end Go.Proofs.YtpkcjfpgemdfdaaGreatDoor.Ax
namespace Go.Proofs.YtpkcjfpgemdfdaaGreatDoor.Ax
open Go Go.RowKit
set_option linter.unusedSimpArgs false
set_option linter.unusedVariables false
section
variable {P:Program} {hk:jfr} {self:jfx} {all:Array Oper} {n:Nat}
structure Reg (P:Program) (all:Array Oper) (n:Nat) (tm0:Tm) (h0:Hp) (R:List Rec) (tm':Tm) (h':Hp):Prop where
 T:TrcOk P all n all.toList tm0 h0 R tm' h'
 back:∀(j:Nat) (o:Oper),all[j]? =some o→∀e∈o.after.toList,Region.binds .any e=true→e.on < j
 flow:∀(i j:Nat) (o q:Oper) (d:Nat),all[i]? =some o→all[j]? =some q→o.dst=some d→i≠j→q.dst≠some d∧
   ((d∈jfF q∨∃g c,q.guard=some (g,c)∧jeh all g=some d)→Nat.testBit ((jfs all.toList []).getD j 0) i=true∨Nat.testBit ((jfs all.toList []).getD i 0) j=true)
 pairs:∀(i j:Nat) (r s:Rec),i < j→R[i]? =some r→R[j]? =some s→Nat.testBit ((jfs all.toList []).getD j 0) i=true∨jjs s.fx r.fx=false
def jf5 (all:Array Oper) (b:Nat→Bool):Prop:=∀(j:Nat) (o:Oper),b j=true→all[j]? =some o→∀e∈o.after.toList,Region.binds .any e=true→b e.on=true
variable {tm0 tm':Tm} {h0 h':Hp} {R:List Rec} {b:Nat→Bool}
theorem Reg.anc (G:Reg P all n tm0 h0 R tm' h') (hc:jf5 all b):∀(m j:Nat) (o:Oper),j≤m→all[j]? =some o→(∀e∈o.after.toList,Region.binds .any e=true→b e.on=true)→∀i,Nat.testBit ((jfs all.toList []).getD j 0) i=true→i < j∧b i=true
 | m,j,o,hm,ho,hr,i,hi=>by
   obtain ⟨e,he,hb,h3⟩:=jiC all.toList [] j o (by simpa using ho) i (by simpa using hi);have hlt:=G.back j o ho e he hb;have hbe:=hr e he hb;rcases h3 with rfl|⟨_,h3⟩
   ·exact ⟨hlt,hbe⟩
   ·cases m with
    | zero=>omega
    | succ m=>
      have hj:j < all.size:=by
       rcases Nat.lt_or_ge j all.size with h|h
       ·exact h
       ·rw [Array.getElem?_eq_none h] at ho;cases ho
      have hoe:all[e.on]? =some (all[e.on]'(by omega)):=Array.getElem?_eq_getElem (by omega)
      have:=G.anc hc m e.on _ (by omega) hoe (fun e' he' hb'=>hc e.on _ hbe hoe e' he' hb') i h3;exact ⟨by omega,this.2⟩
theorem Reg.apart (G:Reg P all n tm0 h0 R tm' h') (hc:jf5 all b) {i j:Nat} {r s:Rec} (hi:R[i]? =some r) (hj:R[j]? =some s) (hne:i≠j) (hbi:b i=false) (hri:∀e∈r.o.after.toList,Region.binds .any e=true→b e.on=true)
  (h:(j < i∧b j=false)∨(i < j∧b j=true)):jjs r.fx s.fx=false:=by
 have hoi:=(G.T.at_ i r hi).1;have hoj:=(G.T.at_ j s hj).1;rcases h with ⟨hlt,hbj⟩|⟨hlt,hbj⟩
 ·rcases G.pairs j i s r hlt hj hi with h1|h1
  ·have:=(G.anc hc i i r.o (Nat.le_refl _) (by simpa using hoi) hri j h1).2;rw [hbj] at this;cases this
  ·exact h1
 ·rcases G.pairs i j r s hlt hi hj with h1|h1
  ·have:=(G.anc hc j j s.o (Nat.le_refl _) (by simpa using hoj) (fun e he hb=>hc j s.o hbj (by simpa using hoj) e he hb) i h1).2;rw [hbi] at this;cases this
  ·unfold jjs at h1 ⊢;simp only [Bool.or_eq_false_iff] at h1 ⊢;exact ⟨⟨⟨h1.1.1.2,h1.1.1.1⟩,h1.2⟩,h1.1.2⟩
theorem jdO {r s:Rec} (hr:RecOk P all r) (hs:RecOk P all s) (h:jjs r.fx s.fx=false) (id:Nat):
  (s.fx.wr.has id→¬r.fx.rd.has id)∧(r.fx.wr.has id→¬s.fx.rd.has id)∧(s.fx.wr.has id→¬(r.h.nx≤id∧id < r.h2.nx))∧(r.fx.wr.has id→¬(s.h.nx≤id∧id < s.h2.nx)):=by
 unfold jjs at h;simp only [Bool.or_eq_false_iff] at h;rw [hr.lo,hr.hi,hs.lo,hs.hi] at h;exact ⟨fun h1 h2=>jg6 h.1.1.2 id h1 h2,fun h1 h2=>jg6 h.1.1.1 id h1 h2,fun h1 h2=>jfh h.2 id h1 h2.1 h2.2,fun h1 h2=>jfh h.1.2 id h1 h2.1 h2.2⟩
theorem jkk {r:Rec} (hr:RecOk P all r) (id:Nat):r.ch id↔(r.fx.wr.has id∨(r.h.nx≤id∧id < r.h2.nx)):=by
 unfold Rec.ch;rw [hr.lo,hr.hi]
theorem Reg.agree (G:Reg P all n tm0 h0 R tm' h') (hc:jf5 all b) {i:Nat} {r:Rec} (hi:R[i]? =some r) (hbi:b i=false) (hri:∀e∈r.o.after.toList,Region.binds .any e=true→b e.on=true) {ι:Emb}
  (hfree:∀(j:Nat) (s:Rec),R[j]? =some s→b j=false→jdR ι s.h.nx s.h2.nx) (id:Nat) (hrd:r.fx.rd.has id) (hne:ι id≠none) (q:Blk) (hq:r.h.h.get id=some q):hat b 0 R h0.h.get id=some q:=by
 have hR:=(G.T.at_ i r hi).2.1;rw [←hq,G.T.heap 0 i r hi id];refine jcp R 0 _ _ rfl (fun j s hj hb hch=> ?_);simp only [Nat.zero_add] at hb;have hS:=(G.T.at_ j s hj).2.1;rw [jkk hS] at hch;by_cases hji:j < i
 ·have hbj:b j=false:=by simpa [hji] using hb
  have hcl:=jdO hR hS (G.apart hc hi hj (by omega) hbi hri (.inl ⟨hji,hbj⟩)) id;rcases hch with h1|h1
  ·exact hcl.1 h1 hrd
  ·exact hne (hfree j s hj hbj id h1.1 h1.2)
 ·have hbj:b j=true:=by simpa [hji] using hb
  have hij:i < j:=by
   rcases Nat.lt_or_ge i j with h|h
   ·exact h
   ·have:j=i:=by omega
    subst this;rw [hbi] at hbj;cases hbj
  have hcl:=jdO hR hS (G.apart hc hi hj (by omega) hbi hri (.inr ⟨hij,hbj⟩)) id;rcases hch with h1|h1
  ·exact hcl.1 h1 hrd
  ·have h2:=G.T.iv i j r s hij hi hj;have h3:=hR.bd id q hq;have h4:=hR.le;omega
theorem Reg.update (G:Reg P all n tm0 h0 R tm' h') (hc:jf5 all b) {i:Nat} {r:Rec} (hi:R[i]? =some r) (hbi:b i=false) (hri:∀e∈r.o.after.toList,Region.binds .any e=true→b e.on=true) (id:Nat):
  hat (fun m=>b m || decide (m=i)) 0 R h0.h.get id=jhb r (hat b 0 R h0.h.get) id:=by
 have hR:=(G.T.at_ i r hi).2.1;by_cases hch:r.ch id
 ·rw [jbX hch];refine jkp R 0 _ i r hi (by simp) hch (fun j s hij hj hb hs=> ?_)
  have hbj:b j=true:=by
   have:¬j=i:=by omega
   simpa [this] using hb
  have hS:=(G.T.at_ j s hj).2.1;have hcl:=jdO hR hS (G.apart hc hi hj (by omega) hbi hri (.inr ⟨hij,hbj⟩)) id;have hiv:=G.T.iv i j r s hij hi hj;have hle:=hS.le;have hle2:=hR.le;rw [jkk hR] at hch;rw [jkk hS] at hs;rcases hch with h1|h1 <;> rcases hs with h2|h2
  ·exact hcl.1 h2 (hR.wrrd id h1)
  ·exact hcl.2.2.2 h1 h2
  ·exact hcl.2.2.1 h2 h1
  ·omega
 ·rw [jbZ hch];refine jcp R 0 _ _ rfl (fun j s hj hb hs=> ?_);simp only [Nat.zero_add] at hb;by_cases hji:j=i
  ·subst hji;have:=Option.some.inj (hi.symm.trans hj);subst this;exact hch hs
  ·simp [hji] at hb
theorem Reg.uses (G:Reg P all n tm0 h0 R tm' h') (hc:jf5 all b) {i:Nat} {r:Rec} (hi:R[i]? =some r) (hbi:b i=false) (hri:∀e∈r.o.after.toList,Region.binds .any e=true→b e.on=true) (t:Nat)
  (hu:t∈jfF r.o∨∃g c,r.o.guard=some (g,c)∧jeh all g=some t):jit b 0 R (jd0 tm0) t=jd0 r.tm t:=by
 have hoi:all[i]? =some r.o:=by simpa using (G.T.at_ i r hi).1
 rw [G.T.tms 0 i r hi t];refine jca R 0 _ _ rfl (fun j s hj hb hd=> ?_);simp only [Nat.zero_add] at hb;have hoj:all[j]? =some s.o:=by simpa using (G.T.at_ j s hj).1
 by_cases hji:j=i
 ·subst hji;simp [hbi] at hb
 ·rcases (G.flow j i s.o r.o t hoj hoi hd hji).2 hu with h1|h1
  ·obtain ⟨h2,h3⟩:=G.anc hc i i r.o (Nat.le_refl _) hoi hri j h1;simp [h2,h3] at hb
  ·have hnot:¬b j=true:=fun hbj=>by
    have:=(G.anc hc j j s.o (Nat.le_refl _) hoj (fun e he hb=>hc j s.o hbj hoj e he hb) i h1).2;rw [hbi] at this;cases this
   have hlt:i < j:=by
    obtain ⟨e,he,hbn,h3⟩:=jiC all.toList [] j s.o (by simpa using hoj) i (by simpa using h1);have hT:jf5 all (fun _=>true):=fun _ _ _ _ _ _ _=>rfl
    exact (G.anc hT j j s.o (Nat.le_refl _) hoj (fun _ _ _=>rfl) i h1).1
   have:¬j < i:=by omega
   simp [this] at hb;exact hnot hb
theorem Reg.vals (G:Reg P all n tm0 h0 R tm' h') {i:Nat} {r:Rec} (hi:R[i]? =some r) (t:Nat):
  jit (fun m=>b m || decide (m=i)) 0 R (jd0 tm0) t=if r.o.dst=some t then r.v else jit b 0 R (jd0 tm0) t:=by
 have hoi:all[i]? =some r.o:=by simpa using (G.T.at_ i r hi).1
 by_cases hd:r.o.dst=some t
 ·rw [if_pos hd];refine jjZ R 0 _ i r hi (by simp) hd (fun j s hij hj _ hs=> ?_);have hoj:all[j]? =some s.o:=by simpa using (G.T.at_ j s hj).1
  exact (G.flow i j r.o s.o t hoi hoj hd (by omega)).1 hs
 ·rw [if_neg hd];refine jca R 0 _ _ rfl (fun j s hj hb hs=> ?_);simp only [Nat.zero_add] at hb;by_cases hji:j=i
  ·subst hji;have:=Option.some.inj (hi.symm.trans hj);subst this;exact hd hs
  ·simp [hji] at hb
end
end Go.Proofs.YtpkcjfpgemdfdaaGreatDoor.Ax
namespace Go.Proofs.YtpkcjfpgemdfdaaGreatDoor.Ax
open Go Go.RowKit
set_option linter.unusedSimpArgs false
set_option linter.unusedVariables false
section
variable {P:Program} {hk:jfr} {self:jfx} {all:Array Oper} {n:Nat} {tm0 tm':Tm} {h0 h':Hp} {R:List Rec} {ι0:Emb} {a0 a:Act} {w0 w:World}
def lb (listed:Array Bool):Nat→Bool:=fun i=>listed.getD i false
structure Inv (P:Program) (all:Array Oper) (n:Nat) (tm0:Tm) (h0 h':Hp) (R:List Rec) (ι0:Emb) (a0:Act) (w0:World) (listed:Array Bool) (a:Act) (w:World) (ι:Emb):Prop where
 size:listed.size=all.size
 closed:jf5 all (lb listed)
 free:∀(j:Nat) (s:Rec),R[j]? =some s→lb listed j=false→jdR ι s.h.nx s.h2.nx
 wr:WR ι (hat (lb listed) 0 R h0.h.get) w
 tsz:a.tmps.size=n
 tv:∀t,VR ι (jit (lb listed) 0 R (jd0 tm0) t) (a.tmps.getD t undef)
 df:a.defers=a0.defers
 ext:Ext ι0 ι h0.nx h'.nx h'.wm w0
 fr:Fr ι0 h'.wm h0.nx w0 w
theorem jqG {listed:Array Bool} {i:Nat} (hi:i < listed.size):lb (listed.setIfInBounds i true)=fun m=>lb listed m || decide (m=i):=by
 funext m
 unfold lb;by_cases h:m=i
 ·subst h;simp [Array.getD,hi]
 ·rw [getD_set_ne false (fun e=>h e.symm)];simp [h]
theorem Inv.step (G:Reg P all n tm0 h0 R tm' h') {listed:Array Bool} {ι ι':Emb} {i:Nat} {r:Rec} {vc:Value} {w':World} (hI:Inv P all n tm0 h0 h' R ι0 a0 w0 listed a w ι) (hi:R[i]? =some r) (hbi:lb listed i=false)
  (hri:∀e∈r.o.after.toList,Region.binds .any e=true→lb listed e.on=true) (p1:Ext ι ι' r.h.nx r.h2.nx r.h2.wm w) (p2:VR ι' r.v vc) (p3:WR ι' (jhb r (hat (lb listed) 0 R h0.h.get)) w') (p4:Fr ι r.h2.wm r.h.nx w w'):
  Inv P all n tm0 h0 h' R ι0 a0 w0 (listed.setIfInBounds i true) (a.put r.o.dst vc) w' ι':=by
 obtain ⟨ho,hR,hlo,hhi,hwm,hdn⟩:=G.T.at_ i r hi;have hoi:all[i]? =some r.o:=by simpa using ho
 have hil:i < listed.size:=by
  rw [hI.size];rcases Nat.lt_or_ge i all.size with h|h
  ·exact h
  ·rw [Array.getElem?_eq_none h] at hoi;cases hoi
 have hle:=p1.le (hI.free i r hi hbi);have hset:=jqG (listed:=listed) hil;have hrle:=hR.le;refine ⟨by simpa using hI.size,fun j o hj hoj e he hb=> ?_,fun j s hj hbj id h1 h2=> ?_, ?_, ?_,fun t=> ?_, ?_,⟨fun id hid=> ?_,fun id l h1 h2 e=> ?_⟩, ?_⟩
 ·rw [hset] at hj ⊢;simp only [Bool.or_eq_true,decide_eq_true_eq] at hj ⊢;rcases hj with hj|rfl
  ·exact .inl (hI.closed j o hj hoj e he hb)
  ·have:=Option.some.inj (hoi.symm.trans hoj);subst this;exact .inl (hri e he hb)
 ·rw [hset] at hbj;simp only [Bool.or_eq_false_iff,decide_eq_false_iff_not] at hbj
  have hiv:id < r.h.nx∨r.h2.nx≤id:=by
   rcases Nat.lt_or_ge j i with hji|hji
   ·have:=G.T.iv j i s r hji hj hi;omega
   ·have:=G.T.iv i j r s (by omega) hi hj;omega
  rw [p1.same id (by omega)];exact hI.free j s hj hbj.1 id h1 h2
 ·rw [hset];exact p3.on fun id _ q hq=>by rw [←G.update hI.closed hi hbi hri id];exact hq
 ·cases hd:r.o.dst with
  | none=>exact hI.tsz
  | some d=>simpa [Act.put] using hI.tsz
 ·rw [hset,G.vals hi t];cases hd:r.o.dst with
  | none=>rw [if_neg (by simp)];exact VR.mono hle _ _ (hI.tv t)
  | some d=>
    have hdlt:=hdn d hd;have hts:=hI.tsz;by_cases ht:d=t
    ·subst ht;rw [if_pos rfl];have:(a.put (some d) vc).tmps.getD d undef=vc:=by simp [Act.put,Array.getD,hts,hdlt]
     rw [this];exact p2
    ·rw [if_neg (fun e=>ht (Option.some.inj e))]
     have:(a.put (some d) vc).tmps.getD t undef=a.tmps.getD t undef:=by
      simp only [Act.put,Array.getD_eq_getD_getElem?];rw [Array.getElem?_setIfInBounds_ne ht]
     rw [this];exact VR.mono hle _ _ (hI.tv t)
 ·have:(a.put r.o.dst vc).defers=a.defers:=by cases r.o.dst <;> rfl
  rw [this];exact hI.df
 ·rw [p1.same id (by omega),hI.ext.same id hid]
 ·by_cases hc:r.h.nx≤id∧id < r.h2.nx
  ·rcases p1.new id l hc.1 hc.2 e with h|⟨id0,l0,d1,d2,d3,d4⟩
   ·exact .inl (Nat.le_trans hI.fr.size h)
   ·by_cases hc0:id0 < h0.nx
    ·rw [hI.ext.same id0 (by omega)] at d3;exact .inr ⟨id0,l0,by omega,hc0,d3,d4⟩
    ·rcases hI.ext.new id0 l0 (by omega) (by omega) d3 with h|⟨id1,l1,e1,e2,e3,e4⟩
     ·exact .inl (by rw [←d4];exact h)
     ·exact .inr ⟨id1,l1,e1,e2,e3,by rw [e4,d4]⟩
  ·rw [p1.same id hc] at e;exact hI.ext.new id l h1 h2 e
 ·refine ⟨p4.os.trans hI.fr.os,p4.tape.trans hI.fr.tape,p4.output.trans hI.fr.output,Nat.le_trans hI.fr.size p4.size,fun B hB hn=> ?_⟩;rw [p4.keep B (Nat.lt_of_lt_of_le hB hI.fr.size) (fun id l g1 g2 e=> ?_),hI.fr.keep B hB hn];by_cases hc0:id < h0.nx
  ·rw [hI.ext.same id (by omega)] at e;exact hn id l (by omega) hc0 e
  ·rcases hI.ext.new id l (by omega) (by omega) e with h|⟨id1,l1,e1,e2,e3,e4⟩
   ·omega
   ·rw [←e4];exact hn id1 l1 e1 e2 e3
theorem Inv.done (G:Reg P all n tm0 h0 R tm' h') {listed:Array Bool} {ι:Emb} (hI:Inv P all n tm0 h0 h' R ι0 a0 w0 listed a w ι) (hall:∀j,j < all.size→lb listed j=true):St ι0 h0 n a0 w0 tm' h' a w:=by
 have hlen:R.length=all.size:=by rw [G.T.len];simp
 have hb:∀(j:Nat) (r:Rec),R[j]? =some r→lb listed (0+j)≠true→False:=fun j r hr hne=>by
  rw [Nat.zero_add] at hne;exact hne (hall j (by rw [←hlen];exact jao hr))
 refine ⟨hI.df,ι,hI.ext,⟨hI.tsz,fun t=> ?_⟩,hI.wr.on fun id _ q hq=> ?_,hI.fr⟩
 ·rw [G.T.ftm 0 t,jca (b:=fun _=>true) (b':=lb listed) R 0 _ _ rfl (fun j r hr hne _=>hb j r hr (Ne.symm hne))];exact hI.tv t
 ·rw [G.T.fin 0 id,jcp (b:=fun _=>true) (b':=lb listed) R 0 _ _ rfl (fun j r hr hne _=>hb j r hr (Ne.symm hne))] at hq;exact hq
theorem Ext.refl' {ι:Emb} {lo hi wm:Nat} {w:World} (hf:jdR ι lo hi):Ext ι ι lo hi wm w:=⟨fun _ _=>rfl,fun id l h1 h2 e=>by rw [hf id h1 h2] at e;cases e⟩
def left (listed:Array Bool) (N:Nat):Nat:=(List.range N).countP fun i=> !lb listed i
theorem joC {listed:Array Bool} {N i:Nat} (hi:i < listed.size) (hN:i < N) (hb:lb listed i=false):left (listed.setIfInBounds i true) N+1=left listed N:=by
 unfold left;rw [jqG hi]
 have:∀M,i < M→(List.range M).countP (fun j=> !(lb listed j || decide (j=i)))+1=(List.range M).countP (fun j=> !lb listed j):=by
  intro M
  induction M with
  | zero=>intro h;omega
  | succ M ih=>
    intro h;rw [List.range_succ,List.countP_append,List.countP_append];by_cases hM:i < M
    ·have:=ih hM;have hne:¬M=i:=by omega
     simp [hne] at this ⊢;omega
    ·have hMi:M=i:=by omega
     subst hMi
     have hc:(List.range M).countP (fun j=> !(lb listed j || decide (j=M)))=(List.range M).countP (fun j=> !lb listed j):=by
      apply List.countP_congr;intro j hj;have:¬j=M:=by have:=List.mem_range.1 hj;omega
      simp [this]
     rw [hc];simp [hb]
 exact this N hN
theorem jnA {listed:Array Bool} {N:Nat} (h:left listed N=0):∀j,j < N→lb listed j=true:=by
 intro j hj;unfold left at h;rw [List.countP_eq_zero] at h;have:=h j (List.mem_range.2 hj);simpa using this
theorem jcv {listed:Array Bool} (hsz:listed.size=all.size) {i:Nat}:i∈Region.ready .any all listed↔∃o,all[i]? =some o∧lb listed i=false∧∀e∈o.after.toList,Region.binds .any e=true→lb listed e.on=true:=by
 rw [mem_ready]
 have hlt:∀o,all[i]? =some o→i < listed.size:=fun o ho=>by
  rw [hsz];rcases Nat.lt_or_ge i all.size with h|h
  ·exact h
  ·rw [Array.getElem?_eq_none h] at ho;cases ho
 constructor
 ·rintro ⟨h1,o,ho,h2⟩
  refine ⟨o,ho, ?_,fun e he hb=>h2 e (by simpa using he) hb⟩;have:=hlt o ho;simp [lb,Array.getD,this] at h1 ⊢;exact h1
 ·rintro ⟨o,ho,h1,h2⟩
  refine ⟨?_,o,ho,fun e he hb=>h2 e (by simpa using he) hb⟩;have:=hlt o ho;simp [lb,Array.getD,this] at h1 ⊢;exact h1
theorem jlK (G:Reg P all n tm0 h0 R tm' h') (Q:Exit→Act→World→Prop) (hQ:∀a w,St ι0 h0 n a0 w0 tm' h' a w→Q .normal a w):∀(fuel:Nat) (listed:Array Bool) (a:Act) (w:World) (ι:Emb),left listed all.size=fuel→Inv P all n tm0 h0 h' R ι0 a0 w0 listed a w ι→wpAny P .any all Q fuel listed a w:=by
 have hlen:R.length=all.size:=by rw [G.T.len];simp
 intro fuel
 induction fuel with
 | zero=>
   intro listed a w ι hf hI;have hall:=jnA hf;refine ⟨?_,hQ a w (hI.done G hall)⟩;cases hr:Region.ready .any all listed with
   | nil=>rfl
   | cons i l=>
     obtain ⟨o,ho,hb,_⟩:=(jcv hI.size).1 (by rw [hr];simp:i∈Region.ready .any all listed)
     have:i < all.size:=by
      rcases Nat.lt_or_ge i all.size with h|h
      ·exact h
      ·rw [Array.getElem?_eq_none h] at ho;cases ho
     rw [hall i this] at hb;cases hb
 | succ fuel ih=>
   intro listed a w ι hf hI;refine ⟨fun hr=> ?_,fun i hi=> ?_⟩
   ·exfalso
    have hex:∃j,j < all.size∧lb listed j=false:=by
     apply Classical.byContradiction;intro hn
     have:left listed all.size=0:=by
      unfold left;rw [List.countP_eq_zero];intro j hj;have hj':=List.mem_range.1 hj;cases hb:lb listed j with
      | true=>simp
      | false=>exact absurd ⟨j,hj',hb⟩ hn
     omega
    have least:∀m j,j≤m→j < all.size→lb listed j=false→False:=by
     intro m
     induction m with
     | zero=>
       intro j hm hj hb;have h0:j=0:=by omega
       subst h0
       have:0∈Region.ready .any all listed:=(jcv hI.size).2 ⟨_,Array.getElem?_eq_getElem hj,hb,fun e he hbn=>by
        have:=G.back 0 _ (Array.getElem?_eq_getElem hj) e he hbn;omega⟩
       rw [hr] at this;cases this
     | succ m ihm=>
       intro j hm hj hb
       have:j∈Region.ready .any all listed:=(jcv hI.size).2 ⟨_,Array.getElem?_eq_getElem hj,hb,fun e he hbn=>by
        have hlt:=G.back j _ (Array.getElem?_eq_getElem hj) e he hbn;cases hbe:lb listed e.on with
        | true=>rfl
        | false=>exact (ihm e.on (by omega) (by omega) hbe).elim⟩
       rw [hr] at this;cases this
    obtain ⟨j,hj,hb⟩:=hex;exact least j j (Nat.le_refl _) hj hb
   ·obtain ⟨o,ho,hb,hri⟩:=(jcv hI.size).1 hi
    have hi':i < all.size:=by
     rcases Nat.lt_or_ge i all.size with h|h
     ·exact h
     ·rw [Array.getElem?_eq_none h] at ho;cases ho
    have hR:R[i]? =some (R[i]'(by omega)):=List.getElem?_eq_getElem (by omega)
    generalize R[i]'(by omega)=r at hR;obtain ⟨hro,hOk,_⟩:=G.T.at_ i r hR
    have hoo:r.o=o:=by
     have h1:all[i]? =some r.o:=by simpa using hro
     exact Option.some.inj (h1.symm.trans ho)
    subst hoo
    have hwant:Region.wanted r.o (yielded all a.tmps)=r.wd:=jiG (a:=a) hOk.want (fun g c d hg hd=>by
     rw [←G.uses hI.closed hR hb hri d (.inr ⟨g,c,hg,hd⟩)]
     exact hI.tv d)
    have hleft:=joC (N:=all.size) (by rw [hI.size];exact hi') hi' hb;unfold wpOp;simp only [ho];cases hwd:r.wd with
    | false=>
      rw [hwant,hwd,if_neg (by simp)];obtain ⟨hv,hh2,hwr⟩:=hOk.off hwd;refine ih _ _ _ ι (by omega) (hI.step G hR hb hri (vc:=undef) (by rw [hh2];exact Ext.refl _ _ _ _) (by rw [hv];exact jgE) (hI.wr.on fun id _ q hq=> ?_) (Fr.refl _ _ _ _));rw [jbZ] at hq
      ·exact hq
      ·rw [jkk hOk,hwr,hh2]
       rintro (h|h)
       ·cases h
       ·omega
    | true=>
      rw [hwant,hwd,if_pos rfl]
      left
      have hopr:∀x,x∈r.o.op.operands.toList→VR ι (opd r.tm x) (a.eval x):=fun x hx=>by
       cases x with
       | tmp t=>
         have ht:t∈jfF r.o:=by
          unfold jfF;rw [List.mem_filterMap];exact ⟨.tmp t,hx,rfl⟩
         have:=hI.tv t;rw [G.uses hI.closed hR hb hri t (.inl ht)] at this;exact this
       | const c=>exact VR.toAV c
       | func f=>exact VR.fn.2 ⟨[],rfl,VRs.nil.2 rfl⟩
       | global g=>
         show VR ι (bif Nat.blt g 100 then .ptr g 0 else .any) (.pointer (some ⟨g,0,none⟩))
         rw [blt_eq];by_cases hg:g < 100
         ·rw [decide_eq_true hg];obtain ⟨m,hm⟩:=hI.wr.gl g hg;exact VR.ptr.2 ⟨_,hm,by simp⟩
         ·rw [decide_eq_false hg];exact VR.any
      have hrun:=hOk.run hwd ι (hat (lb listed) 0 R h0.h.get) w a hI.wr (hI.free i r hR hb) hopr (fun id hrd hne q hq=>G.agree hI.closed hR hb hri hI.free id hrd hne q hq);refine jfJ hrun fun vc w1 hP=> ?_
      obtain ⟨ι',p1,p2,p3,p4⟩:=hP;exact ih _ _ _ ι' (by omega) (hI.step G hR hb hri p1 p2 p3 p4)
theorem joJ (N:Nat):left (Array.replicate N false) N=N:=by
 unfold left
 have:∀M,M≤N→(List.range M).countP (fun i=> !lb (Array.replicate N false) i)=M:=by
  intro M
  induction M with
  | zero=>intro _;rfl
  | succ M ih=>
    intro h;rw [List.range_succ,List.countP_append,ih (by omega)];have:lb (Array.replicate N false) M=false:=by simp [lb,Array.getD]
    simp [this]
 exact this N (Nat.le_refl _)
theorem jr5 (hm:P.follows .mixedOrders=true) (hh:jbD P hk) (hs:jcH P self):jo8 P hk self:=by
 intro os id tm n h r h' h100 hB e ho;obtain ⟨R,tm',h1,hT,hf⟩:=jgG os.toList [] tm h r h' e ho;have hf1:juO os (R.map (·.fx)).reverse tm' n h1=r:=by simpa using hf
 have hf2:(bif flow os (jfs os.toList []) && jdA (jfs os.toList []) (R.map (·.fx)).reverse.reverse [] then Rs.normal tm' h1 else .bad)=r:=hf1;rw [List.reverse_reverse] at hf2;cases hc:(flow os (jfs os.toList []) && jdA (jfs os.toList []) (R.map (·.fx)) []) with
 | false=>rw [hc] at hf2;have:Rs.bad=r:=hf2;subst this;cases ho
 | true=>
   rw [hc] at hf2;have:Rs.normal tm' h1=r:=hf2;subst this;have:=Option.some.inj ho;subst this;simp only [Bool.and_eq_true] at hc;have T:=jt8 hh hs hT h100 hB;obtain ⟨f1,f2⟩:=jnx hc.1
   have hlenA:(R.map (·.fx)).length≤(jfs os.toList []).length:=by
    rw [jkf,List.length_map,T.len];simp
   have G:Reg P os n tm h R tm' h1:=⟨T,f1,f2,fun i j r s hij hi hj=>jfO _ _ [] hc.2 hlenA j s.fx (by rw [List.getElem?_map,hj];rfl) i r.fx (by rw [List.nil_append,List.getElem?_map,hi];rfl) (by simpa using hij)⟩;refine ⟨T.nx,T.wm,fun _=>T.bd,T.keep,fun ι w a hTm hW hfr hBd=> ?_⟩
   have hlb:lb (Array.replicate os.size false)=fun _=>false:=by
    funext i
    unfold lb;rw [Array.getD_eq_getD_getElem?,Array.getElem?_replicate];split <;> rfl
   have hW':WR ι h.h.get w.drew:=⟨hW.gl,hW.lt,fun id l b e1 e2=>jiZ.mono (Le.refl ι) rfl (hW.blk id l b e1 e2),hW.inj⟩;refine wp_region_any hm (jlK (ι0:=ι) (a0:=a) (w0:=w.drew) G _ (fun a' w' hS=> ?_) os.size _ a w.drew ι (joJ os.size) ⟨by simp, ?_,fun j s hj _=> ?_, ?_,hTm.size,fun t=> ?_,rfl,Ext.refl' hfr,Fr.refl _ _ _ _⟩)
   ·obtain ⟨d1,ι',q1,q2,q3,q4⟩:=hS;exact ⟨rfl,d1,ι',⟨q1.same,q1.new⟩,q2,q3,⟨q4.os,q4.tape,q4.output,q4.size,q4.keep⟩⟩
   ·intro j o hj;rw [hlb] at hj;cases hj
   ·obtain ⟨_,_,b1,b2,_⟩:=T.at_ j s hj;exact hfr.sub b1 b2
   ·rw [hlb,jiA _ _ _ _ (fun _=>rfl)];exact hW'
   ·rw [hlb,jjo _ _ _ _ (fun _=>rfl)];exact hTm.val t
theorem jq4 (hm:P.follows .mixedOrders=true) (hh:jbD P hk) (m:Nat):jcH P (ev P hk m):=jrK hh (fun _ hs=>jr5 hm hh hs) m
theorem jle (hm:P.follows .mixedOrders=true) (hh:jbD P hk) {m f:Nat} {args:List AV} {h h':Hp} {v:AV} (h100:100≤h.nx) (hB:Bd h) (e:call P hk (ev P hk m) f args h= .val v h'):CallOk P f args h v h':=
 jiP hh (jq4 hm hh m) h100 hB e
end
end Go.Proofs.YtpkcjfpgemdfdaaGreatDoor.Ax
