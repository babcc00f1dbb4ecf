/- Parts. -/
import Derived.Test.YteokfcjdfjhhhaaGreatDoorGxG
set_option linter.all false
set_option maxRecDepth 100000
set_option maxHeartbeats 8000000
namespace Go.Proofs.YteokfcjdfjhhhaaGreatDoor
open Go Go.RowKit Go.Sort

def jt6:List Rat→Rat
 | []=>0
 | x::r=>x+jt6 r
theorem jtl (a b:List Rat):jt6 (a++b)=jt6 a+jt6 b:=by
 induction a with
 | nil=>simp [jt6,Rat.zero_add]
 | cons x r ih=>rw [List.cons_append,jt6,ih,jt6,Rat.add_assoc]
theorem jtd {α:Type} (f:α→Rat) (m:Rat):∀l:List α,jt6 (l.map (fun x=>f x*m))=jt6 (l.map f)*m
 | []=>by simp [jt6,Rat.zero_mul]
 | x::r=>by rw [List.map_cons,List.map_cons,jt6,jt6,jtd f m r,Rat.add_mul]
theorem jtp {α:Type} (f g:α→Rat):∀l:List α,jt6 (l.map (fun x=>f x+g x))=jt6 (l.map f)+jt6 (l.map g)
 | []=>by simp [jt6,Rat.zero_add]
 | x::r=>by
   simp only [List.map_cons,jt6,jtp f g r]
   grind
theorem jta {α:Type} {f:α→Rat}:∀{l:List α},(∀x∈l,f x=0)→jt6 (l.map f)=0
 | [],_=>rfl
 | x::r,h=>by rw [List.map_cons,jt6,h x (List.mem_cons_self ..),jta (fun y hy=>h y (List.mem_cons_of_mem _ hy)),Rat.zero_add]
theorem jtt {y:List UInt8} {q:Rat}:∀{ks:List (List UInt8)},ks.Nodup→y∈ks→jt6 (ks.map (fun x=>if y=x then q else 0))=q
 | [],_,h=>absurd h (by simp)
 | x::r,hn,h=>by
   obtain ⟨h1,h2⟩:=List.nodup_cons.1 hn;rw [List.map_cons,jt6];by_cases e:y=x
   ·rw [if_pos e,jta (fun z hz=>if_neg fun e2=>h1 (by rw [←e,e2];exact hz)),Rat.add_zero]
   ·rw [if_neg e,Rat.zero_add,jtt h2 ((List.mem_cons.1 h).resolve_left e)]
theorem jts {ks:List (List UInt8)} (hn:ks.Nodup):∀{cs:List (List UInt8×Rat)},(∀c∈cs,c.1∈ks)→jt6 (ks.map (tot cs))=jt6 (cs.map (·.2))
 | [],_=>jta fun x _=>rfl
 | p::r,h=>by
   have ih:=jts hn (cs:=r) (fun c hc=>h c (List.mem_cons_of_mem _ hc));have e:ks.map (tot (p::r))=ks.map (fun x=>(if p.1=x then p.2 else 0)+tot r x):=rfl;rw [e,jtp,ih,jtt hn (h p (List.mem_cons_self ..))];rfl
theorem jtq:∀{l:List (List UInt8×List UInt8)} {s:Rat} {p:Option (List UInt8)},jgL s p l=0→s+jt6 (l.map (fun x=>numQ x.2))=1
 | [],s,p,h=>by
   rw [jgL] at h;split at h
   ·rename_i e;rw [List.map_nil,jt6,Rat.add_zero];exact e
   ·omega
 | y::r,s,p,h=>by
   rw [jgL] at h;split at h
   ·omega
   ·split at h
    ·omega
    ·split at h
     ·omega
     ·split at h
      ·omega
      ·rw [List.map_cons,jt6,←Rat.add_assoc];exact jtq h
theorem jtg:∀{l:List (List UInt8×List UInt8)} {s:Rat} {p:Option (List UInt8)},(∀x∈l,jaZ x.1=true∧chk x.2=0∧0 < numQ x.2)→(∀q,p=some q→∀x∈l,q < x.1)→l.Pairwise (fun a b=>a.1 < b.1)→s+jt6 (l.map (fun x=>numQ x.2))=1→jgL s p l=0
 | [],s,p,_,_,_,h=>by
   rw [List.map_nil,jt6,Rat.add_zero] at h;rw [jgL,if_pos h]
 | y::r,s,p,hx,hp,ho,h=>by
   obtain ⟨a1,a2,a3⟩:=hx y (List.mem_cons_self ..);obtain ⟨b1,b2⟩:=List.pairwise_cons.1 ho;rw [List.map_cons,jt6,←Rat.add_assoc] at h
   have hb:jcZ p y.1=false:=by
    cases p with
    | none=>rfl
    | some q=>
      have h1:=hp q rfl y (List.mem_cons_self ..);simp only [jcZ,jgk,bytesLess_eq,Bool.or_eq_false_iff,decide_eq_false_iff_not,beq_eq_false_iff_ne];exact ⟨fun h2=>List.lt_irrefl _ (List.lt_trans h1 h2),fun e=>List.lt_irrefl q (by rw [e] at h1;exact h1)⟩
   rw [jgL,if_neg (by simp [a1]),if_neg (by simp [hb]),if_neg (by simp [a2]),if_neg (Rat.not_le.2 a3)];exact jtg (fun x h=>hx x (List.mem_cons_of_mem _ h)) (fun q e x h=>by cases e;exact b1 x h) b2 h
theorem jtC {y:List UInt8}:∀{cs:List (List UInt8×Rat)},(∀c∈cs,0 < c.2)→0≤tot cs y∧(jbF cs y=true→0 < tot cs y)
 | [],_=>⟨Rat.le_refl,fun h=>by simp [jbF] at h⟩
 | p::r,h=>by
   obtain ⟨h1,h2⟩:=jtC (y:=y) (cs:=r) (fun c hc=>h c (List.mem_cons_of_mem _ hc));have h3:=h p (List.mem_cons_self ..);rw [tot];by_cases e:p.1=y
   ·rw [if_pos e];grind
   ·rw [if_neg e,Rat.zero_add];refine ⟨h1,fun hh=>h2 ?_⟩;simpa [jbF,e] using hh
theorem jtj (a b:List Lay):jal (a++b)=jal a++jal b:=by simp [jal]
theorem jtb (a b:List (List UInt8×Rat)) (x:List UInt8):jbF (a++b) x=(jbF a x || jbF b x):=by simp [jbF]
theorem jt4:∀a b:List Lay,jcd (a++b)=jcd a+jcd b
 | [],b=>by simp [jcd]
 | x::r,b=>by rw [List.cons_append,jcd,jt4 r b,jcd];omega
structure Mixb (g:List UInt8) (ls:List Lay):Prop where
 ok:∀x∈ls,jaj x=0
 one:∀x∈ls,x.grain=g
 pos:0 < ls.length
 mass:jcd ls≤999999999
 lots:(keysOf (jal ls)).length≤64
 dz:∀y,Dz 600 (tot (jal ls) y / ((jcd ls:Int):Rat))
noncomputable def jt5 (ls:List Lay):Lay:=⟨(ls.getD 0 jaA).grain,jcd ls,jqA ls⟩
section
variable {g:List UInt8} {ls a b:List Lay}
theorem Mixb.m1 (h:Mixb g ls):1≤jcd ls:=by have:=(jdW h.ok).1;have:=h.pos;omega
theorem Mixb.m0 (h:Mixb g ls):((jcd ls:Int):Rat)≠0:=by have:=h.m1;simp;omega
theorem Mixb.g0 (h:Mixb g ls):(ls.getD 0 jaA).grain=g:=h.one _ (jbu h.pos)
theorem Mixb.is (h:Mixb g ls) (y:List UInt8):IsNum (tq (tot (jal ls) y / ((jcd ls:Int):Rat))) (tot (jal ls) y / ((jcd ls:Int):Rat)):=(jjB (h.dz y) (by omega) (by omega)).2.2
theorem jtQ {ks:List (List UInt8)} (h:Ordered ks):ks.Pairwise (fun a b=>a < b):=
 (h.le.and h.nodup).imp fun {a b} ⟨h1,h2⟩=>Classical.byContradiction fun hc=>h2 (List.le_antisymm h1 (List.not_lt.1 hc))
theorem jtJ {x:Lay} (hx:x∈ls) {p:List UInt8×List UInt8} (hp:p∈x.shares):(p.1,numQ p.2*((x.mass:Int):Rat))∈jal ls:=List.mem_flatMap.2 ⟨x,hx,List.mem_map.2 ⟨p,hp,rfl⟩⟩
theorem jtr {c:List UInt8×Rat} (h:c∈jal ls):∃x∈ls,∃p∈x.shares,c=(p.1,numQ p.2*((x.mass:Int):Rat)):=by
 obtain ⟨x,hx,hc⟩:=List.mem_flatMap.1 h;obtain ⟨p,hp,rfl⟩:=List.mem_map.1 hc;exact ⟨x,hx,p,hp,rfl⟩
theorem jtB (h:∀x∈ls,jaj x=0):∀c∈jal ls,0 < c.2:=fun c hc=>by
 obtain ⟨x,hx,p,hp,rfl⟩:=jtr hc;have h1:=jan (h x hx);have h2:=((jav h1.2.2.2).2 p hp).2.2;exact Rat.mul_pos h2 (by have:=h1.2.1;exact_mod_cast (show (0:Int) < x.mass by omega))
theorem jth:∀{ls:List Lay},(∀x∈ls,jaj x=0)→jt6 ((jal ls).map (·.2))=((jcd ls:Int):Rat)
 | [],_=>by simp [jal,jt6,jcd]
 | x::r,h=>by
   have ih:=jth (ls:=r) (fun y hy=>h y (List.mem_cons_of_mem _ hy));have h1:=jan (h x (List.mem_cons_self ..));have h2:=h1.2.2.2;unfold jaw at h2;split at h2
   ·omega
   ·split at h2
    ·omega
    ·have h3:=jtq h2;rw [Rat.zero_add] at h3;rw [show jal (x::r)=jb1 x.mass x.shares++jal r from by simp [jal],List.map_append,jtl,ih,jcd];have e:(jb1 x.mass x.shares).map (·.2)=x.shares.map (fun p=>numQ p.2*((x.mass:Int):Rat)):=by simp [jb1]
     rw [e,jtd (fun p:List UInt8×List UInt8=>numQ p.2),h3,Rat.one_mul];simp
theorem Mixb.val (h:Mixb g ls) {p:List UInt8×List UInt8} (hp:p∈jqA ls):jbF (jal ls) p.1=true∧chk p.2=0∧numQ p.2=tot (jal ls) p.1 / ((jcd ls:Int):Rat):=by
 obtain ⟨y,hy,rfl⟩:=List.mem_map.1 hp;exact ⟨(jbw _ _).1 hy,jaQ.2 ⟨_,h.is y⟩,(h.is y).numQ⟩
theorem Mixb.layer (h:Mixb g ls):jaj (jt5 ls)=0:=by
 have hg:=h.g0;have h1:=h.m1;have h2:=h.mass;have hx:=jan (h.ok _ (jbu (d:=jaA) h.pos))
 have hn:0 < (keysOf (jal ls)).length:=by
  obtain ⟨p,hp⟩:∃p,p∈(ls.getD 0 jaA).shares:=⟨_,List.getElem_mem (jav hx.2.2.2).1.1⟩;refine List.length_pos_of_mem ((jbw _ p.1).2 ?_);exact List.any_eq_true.2 ⟨_,jtJ (jbu (d:=jaA) h.pos) hp,by simp⟩
 unfold jaj jt5;dsimp only;rw [if_neg (by rw [hx.1];simp),if_neg (by omega)];unfold jaw;have hl:(jqA ls).length=(keysOf (jal ls)).length:=by simp [jqA]
 rw [if_neg (by omega),if_neg (by have:=h.lots;omega)];refine jtg (fun p hp=> ?_) (fun q e=>by cases e) ?_ ?_
 ·obtain ⟨k1,k2,k3⟩:=h.val hp;refine ⟨?_,k2, ?_⟩
  ·obtain ⟨c,hc,he⟩:=List.any_eq_true.1 k1;obtain ⟨x,hx,q,hq,rfl⟩:=jtr hc;rw [←show q.1=p.1 by simpa using he];exact ((jav (jan (h.ok x hx)).2.2.2).2 q hq).1
  ·rw [k3];rw [Rat.div_def];exact Rat.mul_pos ((jtC (jtB h.ok)).2 k1) (Rat.inv_pos.2 (by exact_mod_cast (show (0:Int) < jcd ls by omega)))
 ·unfold jqA;rw [List.pairwise_map];exact jtQ (jc4 _)
 ·have e:(jqA ls).map (fun x=>numQ x.2)=(keysOf (jal ls)).map (fun x=>tot (jal ls) x*((jcd ls:Int):Rat)⁻¹):=by
   unfold jqA;rw [List.map_map];refine List.map_congr_left fun y _=> ?_
   show numQ (tq (tot (jal ls) y / ((jcd ls:Int):Rat)))=_
   rw [(h.is y).numQ,Rat.div_def]
  rw [e,jtd (tot (jal ls)),jts (jc4 _).nodup (fun c hc=>(jbw _ _).2 (List.any_eq_true.2 ⟨c,hc,by simp⟩)),jth h.ok,Rat.zero_add,Rat.mul_inv_cancel _ h.m0]
theorem jto {f:List UInt8→Rat} {y:List UInt8}:∀{ks:List (List UInt8)},ks.Nodup→(jbF (ks.map (fun x=>(x,f x))) y=decide (y∈ks))∧tot (ks.map (fun x=>(x,f x))) y=if y∈ks then f y else 0
 | [],_=>by simp [tot,jbF]
 | x::r,hn=>by
   obtain ⟨h1,h2⟩:=List.nodup_cons.1 hn;obtain ⟨i1,i2⟩:=jto (f:=f) (y:=y) h2;rw [List.map_cons,tot,i2];refine ⟨?_, ?_⟩
   ·rw [jbF,List.any_cons,←jbF,i1,Bool.eq_iff_iff];simp only [Bool.or_eq_true,beq_iff_eq,decide_eq_true_eq,List.mem_cons];exact ⟨fun h=>h.imp Eq.symm id,fun h=>h.imp Eq.symm id⟩
   ·by_cases e:x=y
    ·subst e;rw [if_pos rfl,if_neg h1,if_pos (List.mem_cons_self ..),Rat.add_zero]
    ·rw [if_neg e,Rat.zero_add];by_cases hm:y∈r
     ·rw [if_pos hm,if_pos (List.mem_cons_of_mem _ hm)]
     ·rw [if_neg hm,if_neg (fun h=>(List.mem_cons.1 h).elim (fun e2=>e e2.symm) hm)]
theorem Mixb.row (h:Mixb g ls):jb1 (jt5 ls).mass (jt5 ls).shares=(keysOf (jal ls)).map (fun x=>(x,tot (jal ls) x)):=by
 show (jqA ls).map (fun s=>(s.1,numQ s.2*((jcd ls:Int):Rat)))=_
 unfold jqA;rw [List.map_map];refine List.map_congr_left fun y _=> ?_
 show (y,numQ (tq (tot (jal ls) y / ((jcd ls:Int):Rat)))*((jcd ls:Int):Rat))=_
 rw [(h.is y).numQ,Rat.div_def,Rat.mul_assoc,Rat.inv_mul_cancel _ h.m0,Rat.mul_one]
theorem Mixb.same (h:Mixb g ls) (y:List UInt8):jbF (jal [jt5 ls]) y=jbF (jal ls) y∧tot (jal [jt5 ls]) y=tot (jal ls) y:=by
 have e:jal [jt5 ls]=(keysOf (jal ls)).map (fun x=>(x,tot (jal ls) x)):=by
  rw [←h.row];simp [jal]
 obtain ⟨k1,k2⟩:=jto (f:=tot (jal ls)) (y:=y) (jc4 (jal ls)).nodup;rw [e,k1,k2];have hm:=jbw (jal ls) y;by_cases hh:jbF (jal ls) y=true
 ·rw [if_pos (hm.2 hh),hh,decide_eq_true (hm.2 hh)];exact ⟨rfl,rfl⟩
 ·rw [if_neg (fun h2=>hh (hm.1 h2)),decide_eq_false (fun h2=>hh (hm.1 h2)),jei (by simpa using hh)];exact ⟨by simpa using hh,rfl⟩
theorem jtU {a b:List Lay} (hm:jcd a=jcd b) (h:∀y,jbF (jal a) y=jbF (jal b) y∧tot (jal a) y=tot (jal b) y):keysOf (jal a)=keysOf (jal b)∧jqA a=jqA b:=by
 have hk:keysOf (jal a)=keysOf (jal b):=jcc (jc4 _) (jc4 _) (fun x=>by rw [jbw,jbw,(h x).1]);refine ⟨hk, ?_⟩;unfold jqA;rw [hk,hm];exact List.map_congr_left fun y _=>by rw [(h y).2]
theorem jtv (h:Mixb g ls):lots (keysOf (jal [jt5 ls])) (jal [jt5 ls])=lots (keysOf (jal ls)) (jal ls):=by
 have hk:keysOf (jal [jt5 ls])=keysOf (jal ls):=jcc (jc4 _) (jc4 _) (fun x=>by rw [jbw,jbw,(h.same x).1]);unfold lots;rw [hk];exact List.map_congr_left fun y _=>by rw [(h.same y).2]
theorem jtP (ha:Mixb g a) (hb:Mixb g b):jcd [jt5 a,jt5 b]=jcd (a++b)∧∀y,jbF (jal [jt5 a,jt5 b]) y=jbF (jal (a++b)) y∧tot (jal [jt5 a,jt5 b]) y=tot (jal (a++b)) y:=by
 refine ⟨?_,fun y=> ?_⟩
 ·rw [jt4];simp [jcd,jt5]
 ·have e:jal [jt5 a,jt5 b]=jal [jt5 a]++jal [jt5 b]:=by simp [jal]
  rw [e,jtj,jtb,jtb,jfM,jfM,(ha.same y).1,(ha.same y).2,(hb.same y).1,(hb.same y).2];exact ⟨rfl,rfl⟩
theorem jtM {m:Int} {p:List UInt8×List UInt8}:∀{ps:List (List UInt8×List UInt8)},(ps.map (·.1)).Nodup→p∈ps→tot (jb1 m ps) p.1=numQ p.2*((m:Int):Rat)
 | [],_,h=>absurd h (by simp)
 | q::r,hn,h=>by
   rw [List.map_cons,List.nodup_cons] at hn;rw [show jb1 m (q::r)=(q.1,numQ q.2*((m:Int):Rat))::jb1 m r from rfl,tot];rcases List.mem_cons.1 h with rfl|h
   ·rw [if_pos rfl,jei,Rat.add_zero];rw [←Bool.not_eq_true];intro hh;obtain ⟨c,hc,he⟩:=List.any_eq_true.1 hh;obtain ⟨s,hs,rfl⟩:=List.mem_map.1 hc;exact hn.1 (List.mem_map.2 ⟨s,hs,by simpa using he⟩)
   ·rw [if_neg (fun e=>hn.1 (by rw [e];exact List.mem_map.2 ⟨p,h,rfl⟩)),Rat.zero_add,jtM hn.2 h]
theorem jtO {x:Lay} (h:jaj x=0):jcd [x]=x.mass∧keysOf (jal [x])=x.shares.map (·.1)∧jqA [x]=x.shares:=by
 have hx:=jan h;have hn:=jhx hx.2.2.2;have hm:jcd [x]=x.mass:=by simp [jcd]
 have e:jal [x]=jb1 x.mass x.shares:=by simp [jal]
 have ho:Ordered (x.shares.map (·.1)):=⟨hn,by
  have h2:=hx.2.2.2;unfold jaw at h2;split at h2
  ·omega
  ·split at h2
   ·omega
   ·rw [List.pairwise_map]
    exact (jhh h2).2.imp fun h=>List.le_of_lt h⟩
 have hk:keysOf (jal [x])=x.shares.map (·.1):=jcc (jc4 _) ho (fun y=>by
  rw [jbw,e,jbF,List.any_eq_true];constructor
  ·rintro ⟨c,hc,he⟩
   obtain ⟨s,hs,rfl⟩:=List.mem_map.1 hc;exact List.mem_map.2 ⟨s,hs,by simpa using he⟩
  ·intro hy;obtain ⟨s,hs,rfl⟩:=List.mem_map.1 hy
   exact ⟨_,List.mem_map.2 ⟨s,hs,rfl⟩,by simp⟩)
 refine ⟨hm,hk, ?_⟩;have hm0:((x.mass:Int):Rat)≠0:=by have:=hx.2.1;simp;omega
 unfold jqA;rw [hk,hm,e,List.map_map]
 conv=>rhs;rw [←List.map_id x.shares]
 refine List.map_congr_left fun p hp=> ?_
 show (p.1,tq (tot (jb1 x.mass x.shares) p.1 / ((x.mass:Int):Rat)))=p
 rw [jtM hn hp,Rat.div_def,Rat.mul_assoc,Rat.mul_inv_cancel _ hm0,Rat.mul_one,←(jbQ ((jav hx.2.2.2).2 p hp).2.1).eq]
end

theorem jt9 {α:Type} {f:α→Int}:∀{l:List α},(∀x∈l,f x=0)→jab f l=0
 | [],_=>rfl
 | x::r,h=>by rw [jab,if_pos (h x (List.mem_cons_self ..)),jt9 (fun y hy=>h y (List.mem_cons_of_mem _ hy))]
theorem jt8:∀{ls:List Lay},(∀x∈ls,x.shares.length≤4)→(jal ls).length≤4*ls.length
 | [],_=>by simp [jal]
 | x::r,h=>by
   have h1:=jt8 (ls:=r) (fun y hy=>h y (List.mem_cons_of_mem _ hy));have h2:=h x (List.mem_cons_self ..);rw [show jal (x::r)=jb1 x.mass x.shares++jal r from by simp [jal],List.length_append,jdR,List.length_cons];omega
section
variable {w:World} {A:Option Addr} {b o n m k c d q:Nat} {ls:List Lay} {g:List UInt8}
theorem Lv.take (h:Lv w (some ⟨b,o,none⟩) n ls) (hm:m≤n):Lv w (some ⟨b,o,none⟩) m (ls.take m):=by
 refine ⟨by rw [List.length_take,h.len];omega,fun h0=> ?_⟩;obtain ⟨b',o',e,hb,hc⟩:=h.at_ (by omega);cases e
 refine ⟨b,o,rfl,hb,fun j hj=> ?_⟩;rw [show (ls.take m).getD j jaA=ls.getD j jaA by rw [List.getD_eq_getElem?_getD,List.getElem?_take,if_pos hj,←List.getD_eq_getElem?_getD]];exact hc j (by omega)
theorem Lv.drop (h:Lv w (some ⟨b,o,none⟩) n ls) (hm:m≤n):Lv w (some ⟨b,o+m*3,none⟩) (n - m) (ls.drop m):=by
 refine ⟨by rw [List.length_drop,h.len],fun h0=> ?_⟩;obtain ⟨b',o',e,hb,hc⟩:=h.at_ (by omega);cases e
 refine ⟨b,o+m*3,rfl,hb,fun j hj=> ?_⟩;rw [show (ls.drop m).getD j jaA=ls.getD (m+j) jaA by rw [List.getD_eq_getElem?_getD,List.getElem?_drop,←List.getD_eq_getElem?_getD],show o+m*3+j*3=o+(m+j)*3 by omega];exact hc (m+j) (by omega)
structure Mixf (g:List UInt8) (ls:List Lay):Prop where
 ok:∀x∈ls,jaj x=0
 one:∀x∈ls,x.grain=g
 pos:0 < ls.length
 five:ls.length≤5
 mass:jcd ls≤999999999
 four:∀x∈ls,x.shares.length≤4
 dz:∀x∈ls,∀p∈x.shares,Dz 4 (numQ p.2)
theorem Mixf.rmix (h:Mixf g ls) (hv:Lv w A n ls):RMix w A n ls 4:=⟨hv,h.ok,h.dz,by omega,by
 have h1:=hv.len;have h2:=h.five;have:(n+2)*(4+10)≤7*14:=Nat.mul_le_mul (by omega) (by omega)
 omega,by have:=hv.len;have:=h.five;omega⟩
theorem Mixf.tdz (h:Mixf g ls) (hv:Lv w A n ls) (y:List UInt8):Dz 80 (tot (jal ls) y / ((jcd ls:Int):Rat)):=by
 have hr:=h.rmix hv;have hl:=hv.len;have h5:=h.five;have h1:=jjC hr (by have:=h.pos;omega);refine ((hr.all y).div (jes ⟨h1,h.mass⟩) (by simp;omega)).mono ?_;have:n*(4+10)≤5*14:=Nat.mul_le_mul (by omega) (by omega);omega
theorem Mixf.mixb (h:Mixf g ls) (hv:Lv w A n ls):Mixb g ls:=by
 refine ⟨h.ok,h.one,h.pos,h.mass, ?_,fun y=>(h.tdz hv y).mono (by omega)⟩;have h1:=jlY (jc4 (jal ls)).nodup (fun x hx=>(jbw _ _).1 hx);have h2:=jt8 h.four;have:=h.five;omega
theorem Mixf.take (h:Mixf g ls) (h0:0 < m):Mixf g (ls.take m):=by
 have e:jcd ls=jcd (ls.take m)+jcd (ls.drop m):=by rw [←jt4,List.take_append_drop]
 have h1:=(jdW (l:=ls.drop m) (fun x hx=>h.ok x (List.mem_of_mem_drop hx))).1;exact ⟨fun x hx=>h.ok x (List.mem_of_mem_take hx),fun x hx=>h.one x (List.mem_of_mem_take hx),by rw [List.length_take];have:=h.pos;omega,by rw [List.length_take];have:=h.five;omega,by have:=h.mass;omega,fun x hx=>h.four x (List.mem_of_mem_take hx),fun x hx=>h.dz x (List.mem_of_mem_take hx)⟩
theorem Mixf.drop (h:Mixf g ls) (h0:m < ls.length):Mixf g (ls.drop m):=by
 have e:jcd ls=jcd (ls.take m)+jcd (ls.drop m):=by rw [←jt4,List.take_append_drop]
 have h1:=(jdW (l:=ls.take m) (fun x hx=>h.ok x (List.mem_of_mem_take hx))).1;exact ⟨fun x hx=>h.ok x (List.mem_of_mem_drop hx),fun x hx=>h.one x (List.mem_of_mem_drop hx),by rw [List.length_drop];omega,by rw [List.length_drop];have:=h.five;omega,by have:=h.mass;omega,fun x hx=>h.four x (List.mem_of_mem_drop hx),fun x hx=>h.dz x (List.mem_of_mem_drop hx)⟩
theorem Mixb.zero (h:Mixb g ls) (hl:ls.length≤64):jku ls=0:=by
 have h1:=h.pos;have h2:=h.mass;have hg:=h.g0
 have ho:jbX (ls.getD 0 jaA).grain ls=false:=by
  rw [←Bool.not_eq_true,hg];intro hh;obtain ⟨x,hx,he⟩:=List.any_eq_true.1 hh;exact absurd (h.one x hx) (by simpa using he)
 unfold jku;rw [if_neg (by omega),if_neg (by omega),if_neg (by rw [jt9 h.ok];simp),if_neg (by rw [ho];simp),if_neg (by omega)]
theorem jti (hE:Env w) (hv:Lv w A n ls) (h:Mixb g ls) (hn:n≤5) (hi:∀x∈ls,LayIn x) (hd0:0 < d) (hd:d≤80) (hz:∀x∈ls,∀p∈x.shares,Dz d (numQ p.2)):
  Calls Tryz.prog 11 #[.slice A n c] w fun e w'=>∃B d,e= .returned (.tuple #[.agg #[bs g, .int .i64 (jcd ls), .slice B (keysOf (jal ls)).length d], .int .i64 0])∧Pv w' B (keysOf (jal ls)).length (jqA ls)∧Below w.heap.size w w':=by
 have hl:=hv.len;have h1:=h.pos;have hlim:n*(d+10)≤5*90:=Nat.mul_le_mul hn (by omega)
 have hr:RMix w A n ls d:=⟨hv,h.ok,hz,hd0,by
  have:(n+2)*(d+10)≤7*90:=Nat.mul_le_mul (by omega) (by omega)
  omega,by omega⟩
 have:=jpJ (c:=c) hE hr (by omega) (by omega) hi (h.zero (by omega)) h.lots (by omega) (q:=5) (by omega) (fun x hx=>by
  have e:(10:Nat)^80 < B64^5:=by rw [ja7];decide
  have:=hx.mono hd
  exact ⟨Nat.le_of_lt (Nat.lt_trans this.num e),Nat.le_of_lt (Nat.lt_trans this.den e)⟩)
 rwa [h.g0] at this
theorem jtu {B:Option Addr} {e l:Nat} {M:Int} (h:Mixb g ls) (hM:jcd ls=M) (hl:(keysOf (jal ls)).length=l) (hl20:l≤20) (hz:∀y,Dz 80 (tot (jal ls) y / ((jcd ls:Int):Rat))) (hp:Pv w B l (jqA ls)):
  Calls Tryz.prog 10 #[ly g M B l e] w fun e w'=>e= .returned (.int .i64 0)∧Below w.heap.size w w':=by
 have hy:=jan h.layer;have hg:jaZ g=true:=by rw [←h.g0];exact hy.1
 have hcs:=hy.2.2.2;have hs:(jqA ls).length=l:=by rw [←hl];simp [jqA]
 have hl0:0 < l:=by have:=(jav hcs).1.1;rw [←hs];exact this
 have HS:=qh (fun W (hW:Below w.heap.size w W)=>jk9 (c:=e) (d:=162) (k:=0) (hp.below hW) hl0 (by omega) (by omega) (Nat.le_trans (Nat.mul_le_mul_right 163 hl20) (by omega)) (by omega) (fun p hp=>by
  obtain ⟨y,_,rfl⟩:=List.mem_map.1 hp
  exact jrr (hz y) (by omega)) (by
 have h1:=hcs
 change jaw (jqA ls)=0 at h1
 unfold jaw at h1;rw [if_neg (by omega),if_neg (by omega)] at h1
 exact h1))
 have HN:=qh (fun W=>jhH (w:=W) hg);have q1:decide (M < 1)=false:=by rw [decide_eq_false_iff_not,←hM];have:=hy.2.1;exact Int.not_lt.2 this
 have q2:decide (999999999 < M)=false:=by rw [decide_eq_false_iff_not,←hM];have:=hy.2.2.1;exact Int.not_lt.2 this
 clear h hM hl hl20 hz hp hy hg hcs hs hl0;go_enter Tryz.func10,Tryz.ntmps10;go_wp2_with (first|(go_at_call 35;(with_reducible refine mo1 w (HN.out _) (by go_size) fun w1 hb1 hc1 hf1 z1_0 _=> ?_))|(go_at_call 8;(with_reducible refine mo1 w (HS.out _ bi) (by go_size) fun w2 hb2 hc2 hf2 z2_0 _=> ?_)))
 go_ret;exact ⟨rfl,bi⟩
end
end Go.Proofs.YteokfcjdfjhhhaaGreatDoor
