/- Parts. -/
import Derived.Test.YtdbaealhapgjaaaGreatDoorGuG
import Derived.Test.YtdbaealhapgjaaaGreatDoorUcG
set_option linter.all false
set_option maxRecDepth 100000
set_option maxHeartbeats 8000000
namespace Go.Proofs.YtdbaealhapgjaaaGreatDoor
open Go Go.RowKit Go.Sort

def jDj (y:List UInt8):List (List UInt8)→List (List UInt8)
 | []=> [y]
 | x::r=>if y < x then y::x::r else if x=y then x::r else x::jDj y r
theorem jCq (y:List UInt8):∀(ks:List (List UInt8)) (x:List UInt8),x∈jDj y ks↔x∈ks∨x=y
 | [],x=>by simp [jDj]
 | z::r,x=>by
   rw [jDj];split
   ·simp only [List.mem_cons];exact ⟨fun h=>h.elim .inr .inl,fun h=>h.elim .inr .inl⟩
   ·split
    ·rename_i h;subst h
     exact ⟨.inl,fun h=>h.elim id (fun e=>by rw [e];exact List.mem_cons_self ..)⟩
    ·rw [List.mem_cons,jCq y r,List.mem_cons,or_assoc]
theorem jCY (y:List UInt8):∀{ks:List (List UInt8)},Ordered ks→Ordered (jDj y ks)
 | [],_=>⟨by simp [jDj],by simp [jDj]⟩
 | z::r,h=>by
   obtain ⟨a1,a2⟩:=List.nodup_cons.1 h.nodup;obtain ⟨a3,a4⟩:=List.pairwise_cons.1 h.le;rw [jDj];split
   ·rename_i hy
    refine ⟨List.nodup_cons.2 ⟨fun hm=> ?_,h.nodup⟩,List.pairwise_cons.2 ⟨fun x hx=> ?_,h.le⟩⟩
    ·rcases List.mem_cons.1 hm with e|hm
     ·rw [e] at hy;exact List.lt_irrefl _ hy
     ·exact (List.not_le.2 hy) (a3 y hm)
    ·rcases List.mem_cons.1 hx with rfl|hx
     ·exact List.le_of_lt hy
     ·exact List.le_trans (List.le_of_lt hy) (a3 x hx)
   ·rename_i hy
    split
    ·exact h
    ·rename_i hz
     have ih:=jCY y (ks:=r) ⟨a2,a4⟩;refine ⟨List.nodup_cons.2 ⟨fun hm=> ?_,ih.nodup⟩,List.pairwise_cons.2 ⟨fun x hx=> ?_,ih.le⟩⟩
     ·rcases (jCq y r z).1 hm with hm|e
      ·exact a1 hm
      ·exact hz e
     ·rcases (jCq y r x).1 hx with hx|rfl
      ·exact a3 x hx
      ·exact List.not_lt.1 hy
def keysOf (cs:List (List UInt8×Rat)):List (List UInt8):=cs.foldr (fun c ks=>jDj c.1 ks) []
theorem jCh:∀(cs:List (List UInt8×Rat)),Ordered (keysOf cs)
 | []=>⟨List.nodup_nil,List.Pairwise.nil⟩
 | c::r=>jCY c.1 (jCh r)
theorem jCg:∀(cs:List (List UInt8×Rat)) (x:List UInt8),x∈keysOf cs↔jzc cs x=true
 | [],x=>by simp [keysOf,jzc]
 | c::r,x=>by
   have:=jCg r x;show x∈jDj c.1 (keysOf r)↔_
   rw [jCq,this];simp only [jzc,List.any_cons,Bool.or_eq_true,beq_iff_eq];exact ⟨fun h=>h.elim .inr (fun e=> .inl e.symm),fun h=>h.elim (fun e=> .inr e.symm) .inl⟩
noncomputable def jCv (ls:List Lay):List (List UInt8×List UInt8):=(keysOf (jyG ls)).map (fun x=>(x,tq (tot (jyG ls) x / ((jzq ls:Int):Rat))))
section
variable {w:World} {A:Option Addr} {n c d:Nat} {ls:List Lay} {K:Int}
theorem jDe (h:RMix w A n ls d) (h0:0 < n):0 < (keysOf (jyG ls)).length:=by
 obtain ⟨hm,h1,h2,h3⟩:=h.layer h0;have h4:=(jyP h3).1.1;obtain ⟨p,hp⟩:∃p,p∈(ls.getD 0 jyL).shares:=⟨_,List.getElem_mem h4⟩
 have:jzc (jyG ls) p.1=true:=by
  unfold jzc jyG;rw [List.any_eq_true];exact ⟨(p.1,numQ p.2*(((ls.getD 0 jyL).mass:Int):Rat)),List.mem_flatMap.2 ⟨_,hm,List.mem_map.2 ⟨p,hp,rfl⟩⟩,by simp⟩
 exact List.length_pos_of_mem ((jCg _ _).2 this)
end

def jCi:List Rat→Rat
 | []=>0
 | x::r=>x+jCi r
theorem jCu (a b:List Rat):jCi (a++b)=jCi a+jCi b:=by
 induction a with
 | nil=>simp [jCi,Rat.zero_add]
 | cons x r ih=>rw [List.cons_append,jCi,ih,jCi,Rat.add_assoc]
theorem jCy {α:Type} (f:α→Rat) (m:Rat):∀l:List α,jCi (l.map (fun x=>f x*m))=jCi (l.map f)*m
 | []=>by simp [jCi,Rat.zero_mul]
 | x::r=>by rw [List.map_cons,List.map_cons,jCi,jCi,jCy f m r,Rat.add_mul]
theorem jCW {α:Type} (f g:α→Rat):∀l:List α,jCi (l.map (fun x=>f x+g x))=jCi (l.map f)+jCi (l.map g)
 | []=>by simp [jCi,Rat.zero_add]
 | x::r=>by
   simp only [List.map_cons,jCi,jCW f g r]
   grind
theorem jCs {α:Type} {f:α→Rat}:∀{l:List α},(∀x∈l,f x=0)→jCi (l.map f)=0
 | [],_=>rfl
 | x::r,h=>by rw [List.map_cons,jCi,h x (List.mem_cons_self ..),jCs (fun y hy=>h y (List.mem_cons_of_mem _ hy)),Rat.zero_add]
theorem jCU {y:List UInt8} {q:Rat}:∀{ks:List (List UInt8)},ks.Nodup→y∈ks→jCi (ks.map (fun x=>if y=x then q else 0))=q
 | [],_,h=>absurd h (by simp)
 | x::r,hn,h=>by
   obtain ⟨h1,h2⟩:=List.nodup_cons.1 hn;rw [List.map_cons,jCi];by_cases e:y=x
   ·rw [if_pos e,jCs (fun z hz=>if_neg fun e2=>h1 (by rw [←e,e2];exact hz)),Rat.add_zero]
   ·rw [if_neg e,Rat.zero_add,jCU h2 ((List.mem_cons.1 h).resolve_left e)]
theorem jCz {ks:List (List UInt8)} (hn:ks.Nodup):∀{cs:List (List UInt8×Rat)},(∀c∈cs,c.1∈ks)→jCi (ks.map (tot cs))=jCi (cs.map (·.2))
 | [],_=>jCs fun x _=>rfl
 | p::r,h=>by
   have ih:=jCz hn (cs:=r) (fun c hc=>h c (List.mem_cons_of_mem _ hc));have e:ks.map (tot (p::r))=ks.map (fun x=>(if p.1=x then p.2 else 0)+tot r x):=rfl;rw [e,jCW,ih,jCU hn (h p (List.mem_cons_self ..))];rfl
theorem jCZ:∀{l:List (List UInt8×List UInt8)} {s:Rat} {p:Option (List UInt8)},jBm s p l=0→s+jCi (l.map (fun x=>numQ x.2))=1
 | [],s,p,h=>by
   rw [jBm] at h;split at h
   ·rename_i e;rw [List.map_nil,jCi,Rat.add_zero];exact e
   ·omega
 | y::r,s,p,h=>by
   rw [jBm] at h;split at h
   ·omega
   ·split at h
    ·omega
    ·split at h
     ·omega
     ·split at h
      ·omega
      ·rw [List.map_cons,jCi,←Rat.add_assoc];exact jCZ h
theorem jCE:∀{l:List (List UInt8×List UInt8)} {s:Rat} {p:Option (List UInt8)},(∀x∈l,jyT x.1=true∧chk x.2=0∧0 < numQ x.2)→(∀q,p=some q→∀x∈l,q < x.1)→l.Pairwise (fun a b=>a.1 < b.1)→s+jCi (l.map (fun x=>numQ x.2))=1→jBm s p l=0
 | [],s,p,_,_,_,h=>by
   rw [List.map_nil,jCi,Rat.add_zero] at h;rw [jBm,if_pos h]
 | y::r,s,p,hx,hp,ho,h=>by
   obtain ⟨a1,a2,a3⟩:=hx y (List.mem_cons_self ..);obtain ⟨b1,b2⟩:=List.pairwise_cons.1 ho;rw [List.map_cons,jCi,←Rat.add_assoc] at h
   have hb:jAS p y.1=false:=by
    cases p with
    | none=>rfl
    | some q=>
      have h1:=hp q rfl y (List.mem_cons_self ..);simp only [jAS,jtr,bytesLess_eq,Bool.or_eq_false_iff,decide_eq_false_iff_not,beq_eq_false_iff_ne];exact ⟨fun h2=>List.lt_irrefl _ (List.lt_trans h1 h2),fun e=>List.lt_irrefl q (by rw [e] at h1;exact h1)⟩
   rw [jBm,if_neg (by simp [a1]),if_neg (by simp [hb]),if_neg (by simp [a2]),if_neg (Rat.not_le.2 a3)];exact jCE (fun x h=>hx x (List.mem_cons_of_mem _ h)) (fun q e x h=>by cases e;exact b1 x h) b2 h
theorem jDf {y:List UInt8}:∀{cs:List (List UInt8×Rat)},(∀c∈cs,0 < c.2)→0≤tot cs y∧(jzc cs y=true→0 < tot cs y)
 | [],_=>⟨Rat.le_refl,fun h=>by simp [jzc] at h⟩
 | p::r,h=>by
   obtain ⟨h1,h2⟩:=jDf (y:=y) (cs:=r) (fun c hc=>h c (List.mem_cons_of_mem _ hc));have h3:=h p (List.mem_cons_self ..);rw [tot];by_cases e:p.1=y
   ·rw [if_pos e];grind
   ·rw [if_neg e,Rat.zero_add];refine ⟨h1,fun hh=>h2 ?_⟩;simpa [jzc,e] using hh
structure Mixb (g:List UInt8) (ls:List Lay):Prop where
 ok:∀x∈ls,jyQ x=0
 one:∀x∈ls,x.grain=g
 pos:0 < ls.length
 mass:jzq ls≤999999999
 lots:(keysOf (jyG ls)).length≤64
 dz:∀y,Dz 600 (tot (jyG ls) y / ((jzq ls:Int):Rat))
noncomputable def jDw (ls:List Lay):Lay:=⟨(ls.getD 0 jyL).grain,jzq ls,jCv ls⟩
section
variable {g:List UInt8} {ls a b:List Lay}
theorem Mixb.m1 (h:Mixb g ls):1≤jzq ls:=by have:=(jCR h.ok).1;have:=h.pos;omega
theorem Mixb.m0 (h:Mixb g ls):((jzq ls:Int):Rat)≠0:=by have:=h.m1;simp;omega
theorem Mixb.g0 (h:Mixb g ls):(ls.getD 0 jyL).grain=g:=h.one _ (jzb h.pos)
theorem Mixb.is (h:Mixb g ls) (y:List UInt8):IsNum (tq (tot (jyG ls) y / ((jzq ls:Int):Rat))) (tot (jyG ls) y / ((jzq ls:Int):Rat)):=(jp0 (h.dz y) (by omega) (by omega)).2.2
theorem jDx {ks:List (List UInt8)} (h:Ordered ks):ks.Pairwise (fun a b=>a < b):=
 (h.le.and h.nodup).imp fun {a b} ⟨h1,h2⟩=>Classical.byContradiction fun hc=>h2 (List.le_antisymm h1 (List.not_lt.1 hc))
theorem jDo {x:Lay} (hx:x∈ls) {p:List UInt8×List UInt8} (hp:p∈x.shares):(p.1,numQ p.2*((x.mass:Int):Rat))∈jyG ls:=List.mem_flatMap.2 ⟨x,hx,List.mem_map.2 ⟨p,hp,rfl⟩⟩
theorem jCT {c:List UInt8×Rat} (h:c∈jyG ls):∃x∈ls,∃p∈x.shares,c=(p.1,numQ p.2*((x.mass:Int):Rat)):=by
 obtain ⟨x,hx,hc⟩:=List.mem_flatMap.1 h;obtain ⟨p,hp,rfl⟩:=List.mem_map.1 hc;exact ⟨x,hx,p,hp,rfl⟩
theorem jD1 (h:∀x∈ls,jyQ x=0):∀c∈jyG ls,0 < c.2:=fun c hc=>by
 obtain ⟨x,hx,p,hp,rfl⟩:=jCT hc;have h1:=jyJ (h x hx);have h2:=((jyP h1.2.2.2).2 p hp).2.2;exact Rat.mul_pos h2 (by have:=h1.2.1;exact_mod_cast (show (0:Int) < x.mass by omega))
theorem jCt:∀{ls:List Lay},(∀x∈ls,jyQ x=0)→jCi ((jyG ls).map (·.2))=((jzq ls:Int):Rat)
 | [],_=>by simp [jyG,jCi,jzq]
 | x::r,h=>by
   have ih:=jCt (ls:=r) (fun y hy=>h y (List.mem_cons_of_mem _ hy));have h1:=jyJ (h x (List.mem_cons_self ..));have h2:=h1.2.2.2;unfold jyU at h2;split at h2
   ·omega
   ·split at h2
    ·omega
    ·have h3:=jCZ h2;rw [Rat.zero_add] at h3;rw [show jyG (x::r)=jyO x.mass x.shares++jyG r from by simp [jyG],List.map_append,jCu,ih,jzq];have e:(jyO x.mass x.shares).map (·.2)=x.shares.map (fun p=>numQ p.2*((x.mass:Int):Rat)):=by simp [jyO]
     rw [e,jCy (fun p:List UInt8×List UInt8=>numQ p.2),h3,Rat.one_mul];simp
theorem Mixb.val (h:Mixb g ls) {p:List UInt8×List UInt8} (hp:p∈jCv ls):jzc (jyG ls) p.1=true∧chk p.2=0∧numQ p.2=tot (jyG ls) p.1 / ((jzq ls:Int):Rat):=by
 obtain ⟨y,hy,rfl⟩:=List.mem_map.1 hp;exact ⟨(jCg _ _).1 hy,jjL.2 ⟨_,h.is y⟩,(h.is y).numQ⟩
theorem Mixb.layer (h:Mixb g ls):jyQ (jDw ls)=0:=by
 have hg:=h.g0;have h1:=h.m1;have h2:=h.mass;have hx:=jyJ (h.ok _ (jzb (d:=jyL) h.pos))
 have hn:0 < (keysOf (jyG ls)).length:=by
  obtain ⟨p,hp⟩:∃p,p∈(ls.getD 0 jyL).shares:=⟨_,List.getElem_mem (jyP hx.2.2.2).1.1⟩;refine List.length_pos_of_mem ((jCg _ p.1).2 ?_);exact List.any_eq_true.2 ⟨_,jDo (jzb (d:=jyL) h.pos) hp,by simp⟩
 unfold jyQ jDw;dsimp only;rw [if_neg (by rw [hx.1];simp),if_neg (by omega)];unfold jyU;have hl:(jCv ls).length=(keysOf (jyG ls)).length:=by simp [jCv]
 rw [if_neg (by omega),if_neg (by have:=h.lots;omega)];refine jCE (fun p hp=> ?_) (fun q e=>by cases e) ?_ ?_
 ·obtain ⟨k1,k2,k3⟩:=h.val hp;refine ⟨?_,k2, ?_⟩
  ·obtain ⟨c,hc,he⟩:=List.any_eq_true.1 k1;obtain ⟨x,hx,q,hq,rfl⟩:=jCT hc;rw [←show q.1=p.1 by simpa using he];exact ((jyP (jyJ (h.ok x hx)).2.2.2).2 q hq).1
  ·rw [k3];rw [Rat.div_def];exact Rat.mul_pos ((jDf (jD1 h.ok)).2 k1) (Rat.inv_pos.2 (by exact_mod_cast (show (0:Int) < jzq ls by omega)))
 ·unfold jCv;rw [List.pairwise_map];exact jDx (jCh _)
 ·have e:(jCv ls).map (fun x=>numQ x.2)=(keysOf (jyG ls)).map (fun x=>tot (jyG ls) x*((jzq ls:Int):Rat)⁻¹):=by
   unfold jCv;rw [List.map_map];refine List.map_congr_left fun y _=> ?_
   show numQ (tq (tot (jyG ls) y / ((jzq ls:Int):Rat)))=_
   rw [(h.is y).numQ,Rat.div_def]
  rw [e,jCy (tot (jyG ls)),jCz (jCh _).nodup (fun c hc=>(jCg _ _).2 (List.any_eq_true.2 ⟨c,hc,by simp⟩)),jCt h.ok,Rat.zero_add,Rat.mul_inv_cancel _ h.m0]
theorem jD0 {f:List UInt8→Rat} {y:List UInt8}:∀{ks:List (List UInt8)},ks.Nodup→(jzc (ks.map (fun x=>(x,f x))) y=decide (y∈ks))∧tot (ks.map (fun x=>(x,f x))) y=if y∈ks then f y else 0
 | [],_=>by simp [tot,jzc]
 | x::r,hn=>by
   obtain ⟨h1,h2⟩:=List.nodup_cons.1 hn;obtain ⟨i1,i2⟩:=jD0 (f:=f) (y:=y) h2;rw [List.map_cons,tot,i2];refine ⟨?_, ?_⟩
   ·rw [jzc,List.any_cons,←jzc,i1,Bool.eq_iff_iff];simp only [Bool.or_eq_true,beq_iff_eq,decide_eq_true_eq,List.mem_cons];exact ⟨fun h=>h.imp Eq.symm id,fun h=>h.imp Eq.symm id⟩
   ·by_cases e:x=y
    ·subst e;rw [if_pos rfl,if_neg h1,if_pos (List.mem_cons_self ..),Rat.add_zero]
    ·rw [if_neg e,Rat.zero_add];by_cases hm:y∈r
     ·rw [if_pos hm,if_pos (List.mem_cons_of_mem _ hm)]
     ·rw [if_neg hm,if_neg (fun h=>(List.mem_cons.1 h).elim (fun e2=>e e2.symm) hm)]
theorem Mixb.row (h:Mixb g ls):jyO (jDw ls).mass (jDw ls).shares=(keysOf (jyG ls)).map (fun x=>(x,tot (jyG ls) x)):=by
 show (jCv ls).map (fun s=>(s.1,numQ s.2*((jzq ls:Int):Rat)))=_
 unfold jCv;rw [List.map_map];refine List.map_congr_left fun y _=> ?_
 show (y,numQ (tq (tot (jyG ls) y / ((jzq ls:Int):Rat)))*((jzq ls:Int):Rat))=_
 rw [(h.is y).numQ,Rat.div_def,Rat.mul_assoc,Rat.inv_mul_cancel _ h.m0,Rat.mul_one]
theorem Mixb.same (h:Mixb g ls) (y:List UInt8):jzc (jyG [jDw ls]) y=jzc (jyG ls) y∧tot (jyG [jDw ls]) y=tot (jyG ls) y:=by
 have e:jyG [jDw ls]=(keysOf (jyG ls)).map (fun x=>(x,tot (jyG ls) x)):=by
  rw [←h.row];simp [jyG]
 obtain ⟨k1,k2⟩:=jD0 (f:=tot (jyG ls)) (y:=y) (jCh (jyG ls)).nodup;rw [e,k1,k2];have hm:=jCg (jyG ls) y;by_cases hh:jzc (jyG ls) y=true
 ·rw [if_pos (hm.2 hh),hh,decide_eq_true (hm.2 hh)];exact ⟨rfl,rfl⟩
 ·rw [if_neg (fun h2=>hh (hm.1 h2)),decide_eq_false (fun h2=>hh (hm.1 h2)),jzy (by simpa using hh)];exact ⟨by simpa using hh,rfl⟩
theorem jDu {m:Int} {p:List UInt8×List UInt8}:∀{ps:List (List UInt8×List UInt8)},(ps.map (·.1)).Nodup→p∈ps→tot (jyO m ps) p.1=numQ p.2*((m:Int):Rat)
 | [],_,h=>absurd h (by simp)
 | q::r,hn,h=>by
   rw [List.map_cons,List.nodup_cons] at hn;rw [show jyO m (q::r)=(q.1,numQ q.2*((m:Int):Rat))::jyO m r from rfl,tot];rcases List.mem_cons.1 h with rfl|h
   ·rw [if_pos rfl,jzy,Rat.add_zero];rw [←Bool.not_eq_true];intro hh;obtain ⟨c,hc,he⟩:=List.any_eq_true.1 hh;obtain ⟨s,hs,rfl⟩:=List.mem_map.1 hc;exact hn.1 (List.mem_map.2 ⟨s,hs,by simpa using he⟩)
   ·rw [if_neg (fun e=>hn.1 (by rw [e];exact List.mem_map.2 ⟨p,h,rfl⟩)),Rat.zero_add,jDu hn.2 h]
end
end Go.Proofs.YtdbaealhapgjaaaGreatDoor
