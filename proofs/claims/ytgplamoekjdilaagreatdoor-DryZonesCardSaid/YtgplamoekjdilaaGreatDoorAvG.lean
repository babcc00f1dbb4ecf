/- Parts. -/
import Derived.Test.YtgplamoekjdilaaGreatDoorAtG
set_option linter.all false
set_option maxRecDepth 100000
set_option maxHeartbeats 8000000
namespace Go.Proofs.YtgplamoekjdilaaGreatDoor
open Go Go.RowKit Go.Sort

theorem jya {hs:List Hr} {c:Clim} {n i k:Nat} (hl:hs.length=n) (h:n=i+1+k):jwF hs c k=jhG (hs.getD i (0,0)) c:=by
 unfold jwF;rw [show hs.length - 1 - k=i by omega]
section
variable {w:World} {A B:Option Addr} {n cap m c2:Nat} {hs:List Hr} {c:Clim} {x y z:Rat}
end
end Go.Proofs.YtgplamoekjdilaaGreatDoor
namespace Go.Proofs.YtgplamoekjdilaaGreatDoor
open Go Go.RowKit

abbrev jz4:List UInt8:=[111,108,100]
def ptz (x y z:Rat) (k:Nat):List UInt8×List UInt8:=(tq (frq x z k),tq (frq y z k))
section
variable {hs:List Hr} {c:Clim} {x y z:Rat} {n k m:Nat} {ps qs:List Zn}
theorem ZR.sep (h:ZR hs c x y z n k ps) (h0:0 < k) (h1:k < n):jwF hs c k≠jwF hs c (k - 1):=by
 cases h with
 | nil=>omega
 | run hp hk hm ha hb=>
   rw [ha (k - 1) (by omega) (by omega)];exact hb h1
theorem ZR.det {ps:List Zn} (h:ZR hs c x y z n k ps):∀{qs:List Zn},ZR hs c x y z n k qs→ps=qs:=by
 induction h with
 | nil=>intro qs h;cases h with
   | nil=>rfl
   | run hp hk hm ha hb=>omega
 | @run k m ps hp hk hm ha hb ih=>
   intro qs h;cases h with
   | nil=>omega
   | @run k' _ ps' hp' hk' hm' ha' hb'=>
     have e:k=k':=by
      rcases Nat.lt_trichotomy k k' with h|h|h
      ·exact absurd ((ha k' (by omega) hk').trans (ha (k' - 1) (by omega) (by omega)).symm) (hp'.sep (by omega) (by omega))
      ·exact h
      ·exact absurd ((ha' k (by omega) hk).trans (ha' (k - 1) (by omega) (by omega)).symm) (hp.sep (by omega) (by omega))
     subst e;rw [ih hp']
theorem ZR.one (h:ZR hs c x y z n n ps) (h0:0 < n) (ha:∀j,j < n→jwF hs c j=true):ps=jxb [] (jwI true) (((0:Nat):Rat)*x) (((0:Nat):Rat)*y) ((n:Rat)*x) ((n:Rat)*y) z:=by
 have e:jwF hs c 0=true:=ha 0 h0;have:=ZR.run (n:=n) (k:=0) (m:=n) (hs:=hs) (c:=c) (x:=x) (y:=y) (z:=z) (ps:=[]) ZR.nil h0 (Nat.le_refl _) (fun j _ h2=>(ha j h2).trans e.symm) (fun h=>absurd h (Nat.lt_irrefl _));rw [e] at this;exact ZR.det h this
theorem jz8 {f g:Bool} (h:jwI f=jwI g):f=g:=by cases f <;> cases g <;> simp [jwI] at h ⊢
theorem jz7 (f:Bool):jwI f≠jz4:=by cases f <;> simp [jwI]
structure ZI (hs:List Hr) (c:Clim) (x y z:Rat) (k:Nat) (ps:List Zn):Prop where
 one:∀i,i < ps.length→∃a b f,ps.getD i zn0=(jwI f,ptz x y z a,ptz x y z b)∧a≤b∧b≤k
 adj:∀i,i+1 < ps.length→(ps.getD i zn0).2.2=(ps.getD (i+1) zn0).2.1∧(ps.getD i zn0).1≠(ps.getD (i+1) zn0).1
 first:0 < ps.length→(ps.getD 0 zn0).2.1=ptz x y z 0
 last:0 < ps.length→∃b,b≤k∧(ps.getD (ps.length - 1) zn0).2.2=ptz x y z b∧(frq x z b=z∨b=k∧(ps.getD (ps.length - 1) zn0).1=jwI (jwF hs c (k - 1)))
 none:ps.length=0→k=0
theorem jyM {α:Type} {l:List α} {a d:α} {i:Nat} (h:i < l.length):(l++[a]).getD i d=l.getD i d:=by
 simp [List.getD_eq_getElem?_getD,List.getElem?_append_left h]
theorem jyN {α:Type} {l:List α} {a d:α}:(l++[a]).getD l.length d=a:=by
 simp [List.getD_eq_getElem?_getD]
theorem ZR.zi (hx:0≤x) (hz:0 < z) (h:ZR hs c x y z n k ps):ZI hs c x y z k ps:=by
 induction h with
 | nil=>exact ⟨fun i h=>by simp at h,fun i h=>by simp at h,fun h=>by simp at h,fun h=>by simp at h,fun _=>rfl⟩
 | @run k m ps hp hk hm ha hb ih=>
   have e1:jwt ((k:Rat)*x) z=frq x z k:=rfl;have e2:jwt ((k:Rat)*y) z=frq y z k:=rfl;have e3:jwt ((m:Rat)*x) z=frq x z m:=rfl;have e4:jwt ((m:Rat)*y) z=frq y z m:=rfl;unfold jxb;rw [e1,e2,e3,e4];by_cases hd:z≤frq x z k
   ·rw [if_pos hd];have he:frq x z k=z:=Rat.le_antisymm jyP hd;refine ⟨fun i h=> ?_,ih.adj,ih.first,fun h=> ?_,fun h=> ?_⟩
    ·obtain ⟨a,b,f,h1,h2,h3⟩:=ih.one i h;exact ⟨a,b,f,h1,h2,by omega⟩
    ·obtain ⟨b,h1,h2,h3⟩:=ih.last h;refine ⟨b,by omega,h2, .inl ?_⟩;rcases h3 with h3|⟨rfl,_⟩
     ·exact h3
     ·exact he
    ·have:=ih.none h;subst this;rw [jxE hz] at he
     grind
   ·rw [if_neg hd];have hl:∀b,b≤k→frq x z b≠z:=fun b hb e=>hd (by have h9:=jyO (z:=z) hx hb;rw [e] at h9;exact h9)
    refine ⟨fun i h=> ?_,fun i h=> ?_,fun h=> ?_,fun h=> ?_,fun h=>by simp at h⟩
    ·simp at h;by_cases hi:i < ps.length
     ·rw [jyM hi];obtain ⟨a,b,f,h1,h2,h3⟩:=ih.one i hi;exact ⟨a,b,f,h1,h2,by omega⟩
     ·obtain rfl:i=ps.length:=by omega
      rw [jyN];exact ⟨k,m,_,rfl,by omega,Nat.le_refl _⟩
    ·simp at h;rw [jyM h];by_cases hi:i+1 < ps.length
     ·rw [jyM hi];exact ih.adj i hi
     ·obtain e:i+1=ps.length:=by omega
      rw [e,jyN];obtain ⟨b,h1,h2,h3⟩:=ih.last (by omega);rw [show ps.length - 1=i by omega] at h2 h3;rcases h3 with h3|⟨rfl,h3⟩
      ·exact absurd h3 (hl b h1)
      ·refine ⟨h2, ?_⟩;rw [h3];intro e
       have h0:0 < b:=by
        rcases Nat.eq_zero_or_pos b with h0|h0
        ·subst h0;cases hp with
         | nil=>simp at h
         | run _ a1=>omega
        ·exact h0
       exact hp.sep h0 (by omega) (jz8 e).symm
    ·by_cases hi:0 < ps.length
     ·rw [jyM hi];exact ih.first hi
     ·have:ps.length=0:=by omega
      have hk0:=ih.none this;have:ps=[]:=List.eq_nil_of_length_eq_zero this;subst this;subst hk0;rfl
    ·refine ⟨m,Nat.le_refl _, ?_, .inr ⟨rfl, ?_⟩⟩
     ·rw [List.length_append,List.length_singleton,Nat.add_sub_cancel,jyN];rfl
     ·rw [List.length_append,List.length_singleton,Nat.add_sub_cancel,jyN,ha (m - 1) (by omega) (by omega)]
structure ZF (x y z:Rat) (Z:List Zn):Prop where
 pos:0 < Z.length
 one:∀i,i < Z.length→∃kd p1 p2 q1 q2,Z.getD i zn0=(kd,(tq p1,tq p2),(tq q1,tq q2))∧p1≤p2∧q1≤q2∧p1≤q1∧p2≤q2∧q2≤z∧(∃a,a≤1000∧p1=frq x z a∧p2=frq y z a)∧((∃b,b≤1000∧q1=frq x z b∧q2=frq y z b)∨q1=z∧q2=z)∧((∃f,kd=jwI f)∨kd=jz4∧i+1=Z.length∧q1=z)
 adj:∀i,i+1 < Z.length→(Z.getD i zn0).2.2=(Z.getD (i+1) zn0).2.1∧(Z.getD i zn0).1≠(Z.getD (i+1) zn0).1∧(Z.getD i zn0).1≠jz4
 first:(Z.getD 0 zn0).2.1=(tq 0,tq 0)
 last:(Z.getD (Z.length - 1) zn0).2.2=(tq z,tq z)
theorem jyS (z:Rat):jwt z z=z:=by unfold jwt;split <;> rfl
theorem ZR.zf (hx:0≤x) (hxy:x≤y) (hz:0 < z) (hn:n≤1000) (h:ZR hs c x y z n n ps):ZF x y z (jxb ps jz4 ((n:Rat)*x) ((n:Rat)*y) z z z):=by
 have hi:=h.zi hx hz;have hy:0≤y:=Rat.le_trans hx hxy;have e1:jwt ((n:Rat)*x) z=frq x z n:=rfl;have e2:jwt ((n:Rat)*y) z=frq y z n:=rfl;have h00:ptz x y z 0=(tq 0,tq 0):=by unfold ptz;rw [jxE hz,jxE hz]
 have hone:∀i,i < ps.length→∃kd p1 p2 q1 q2,ps.getD i zn0=(kd,(tq p1,tq p2),(tq q1,tq q2))∧p1≤p2∧q1≤q2∧p1≤q1∧p2≤q2∧q2≤z∧(∃a,a≤1000∧p1=frq x z a∧p2=frq y z a)∧(∃b,b≤1000∧q1=frq x z b∧q2=frq y z b)∧(∃f,kd=jwI f):=fun i h1=>by
  obtain ⟨a,b,f,e,hab,hb⟩:=hi.one i h1;exact ⟨_,_,_,_,_,e,jz0 hx hxy,jz0 hx hxy,jyO hx hab,jyO hy hab,jyP,⟨a,by omega,rfl,rfl⟩,⟨b,by omega,rfl,rfl⟩,⟨f,rfl⟩⟩
 have hold:∀i,i < ps.length→(ps.getD i zn0).1≠jz4:=fun i h1=>by
  obtain ⟨a,b,f,e,_⟩:=hi.one i h1;rw [e];exact jz7 f
 unfold jxb;rw [e1,e2,jyS];by_cases hd:z≤frq x z n
 ·rw [if_pos hd];have he:frq x z n=z:=Rat.le_antisymm jyP hd
  have hp:0 < ps.length:=by
   rcases Nat.eq_zero_or_pos ps.length with h0|h0
   ·have:=hi.none h0;subst this;rw [jxE hz] at he
    grind
   ·exact h0
  refine ⟨hp,fun i h1=> ?_,fun i h1=>⟨(hi.adj i h1).1,(hi.adj i h1).2,hold i (by omega)⟩,(hi.first hp).trans h00, ?_⟩
  ·obtain ⟨kd,p1,p2,q1,q2,g1,g2,g3,g4,g5,g6,g7,g8,g9⟩:=hone i h1;exact ⟨kd,p1,p2,q1,q2,g1,g2,g3,g4,g5,g6,g7, .inl g8, .inl g9⟩
  ·obtain ⟨b,g1,g2,g3⟩:=hi.last hp
   have hb:frq x z b=z:=by
    rcases g3 with g3|⟨rfl,_⟩
    ·exact g3
    ·exact he
   have hb2:frq y z b=z:=Rat.le_antisymm jyP (by rw [←hb];rw [hb];have:=jz0 (z:=z) (k:=b) hx hxy;rw [hb] at this;exact this);rw [g2];unfold ptz;rw [hb,hb2]
 ·rw [if_neg hd];have hl:∀b,b≤n→frq x z b≠z:=fun b hb e=>hd (by have h9:=jyO (z:=z) hx hb;rw [e] at h9;exact h9)
  refine ⟨by simp,fun i h1=> ?_,fun i h1=> ?_, ?_, ?_⟩
  ·simp at h1;by_cases h2:i < ps.length
   ·rw [jyM h2];obtain ⟨kd,p1,p2,q1,q2,g1,g2,g3,g4,g5,g6,g7,g8,g9⟩:=hone i h2;exact ⟨kd,p1,p2,q1,q2,g1,g2,g3,g4,g5,g6,g7, .inl g8, .inl g9⟩
   ·obtain rfl:i=ps.length:=by omega
    rw [jyN];exact ⟨jz4,_,_,z,z,rfl,jz0 hx hxy,Rat.le_refl,jyP,jyP,Rat.le_refl,⟨n,hn,rfl,rfl⟩, .inr ⟨rfl,rfl⟩, .inr ⟨rfl,by simp,rfl⟩⟩
  ·simp at h1;rw [jyM h1];by_cases h2:i+1 < ps.length
   ·rw [jyM h2];exact ⟨(hi.adj i h2).1,(hi.adj i h2).2,hold i h1⟩
   ·obtain e:i+1=ps.length:=by omega
    rw [e,jyN];obtain ⟨b,g1,g2,g3⟩:=hi.last (by omega);rw [show ps.length - 1=i by omega] at g2 g3;rcases g3 with g3|⟨rfl,g3⟩
    ·exact absurd g3 (hl b g1)
    ·exact ⟨g2,hold i h1,hold i h1⟩
  ·by_cases h2:0 < ps.length
   ·rw [jyM h2];exact (hi.first h2).trans h00
   ·have:ps.length=0:=by omega
    have hk0:=hi.none this;have:ps=[]:=List.eq_nil_of_length_eq_zero this;subst this;subst hk0;exact h00
  ·rw [List.length_append,List.length_singleton,Nat.add_sub_cancel,jyN]
end
end Go.Proofs.YtgplamoekjdilaaGreatDoor
