/- Parts. -/
import Derived.Test.YtpkcjfpgemdfdaaGreatDoorDaG
import Derived.Test.YtpkcjfpgemdfdaaGreatDoorShelf
import Derived.Laws.AppendOwn
import Derived.Sort.LotA
import Derived.Lib.AppendIntMem
set_option linter.all false
set_option maxRecDepth 100000
set_option maxHeartbeats 8000000
namespace Go.Proofs.YtpkcjfpgemdfdaaGreatDoor
open Go Go.RowKit Go.Proofs.Tryz

def jl3 (h:Hr):Bool:=jqq h.1 && jqd h.2
def hix:List Hr→Nat→Int
 | [],_=> -1
 | h::r,i=>if jl3 h then hix r (i+1) else (i:Int)
theorem jtW (l:List Hr):∀i:Nat,decide (0≤hix l i)=l.any fun h=> !jl3 h:=by
 induction l with
 | nil=>intro i;rfl
 | cons h r ih=>
   intro i;unfold hix;cases hb:jl3 h with
   | true=>rw [if_pos rfl,ih (i+1)];simp [hb]
   | false=>rw [if_neg (by simp)];simp [hb]
def jkg (hs:List Hr):Int:=if 1000 < hs.length then 5 else if hs.any fun h=> !jl3 h then 3 else 0
section
variable {w:World}
theorem jmD (t u:Int):Calls prog 133 #[.agg #[.int .i64 t, .int .i64 u]] w fun e w'=>e= .returned (.bool (jl3 (t,u)))∧Below w.heap.size w w':=by
 have F1:=fun w=>jeu (w:=w) t
 have F2:=fun w=>jgA (w:=w) u
 rw [show (decide (-600≤t) && decide (t≤1000))=jqq t from rfl] at F1;rw [show (decide (0≤u) && decide (u≤100))=jqd u from rfl] at F2;obtain ⟨b1,h1⟩:∃b,jqq t=b:=⟨_,rfl⟩;obtain ⟨b2,h2⟩:∃b,jqd u=b:=⟨_,rfl⟩;have hb:jl3 (t,u)=(b1 && b2):=by unfold jl3;rw [←h1,←h2]
 rw [hb];rw [h1] at F1;rw [h2] at F2;clear hb h1 h2;go_enter func133,ntmps133;cases b1
 all_goals go_wp2_with (first|(go_at_call 134;(with_reducible refine mo1 w (F1 _) (by go_size) fun w1 hb1 hc1 hf1 z1_0 _=> ?_))|(go_at_call 135;(with_reducible refine mo1 w (F2 _) (by go_size) fun w2 hb2 hc2 hf2 z2_0 _=> ?_)))
 all_goals go_ret
 all_goals exact ⟨by simp,bi⟩
theorem jl2 (t u:Int):Calls prog 132 #[.agg #[.int .i64 t, .int .i64 u]] w fun e w'=>e= .returned (.bool (!jl3 (t,u)))∧Below w.heap.size w w':=by
 go_enter func132,ntmps132;go_wp2_with (go_at_call 133;(with_reducible refine mo1 w (jmD t u) (by go_size) fun w1 hb1 hc1 hf1 z1_0 _=> ?_))
 go_ret;exact ⟨rfl,bi⟩
theorem jdZ {t u:Int} {r:Bool} (hr:(!jl3 (t,u))=r):Calls prog 132 #[.agg #[.int .i64 t, .int .i64 u]] w fun e w'=>e= .returned (.bool r)∧Below w.heap.size w w':=hr ▸ jl2 t u
variable {A:Option Addr} {n c:Nat} {hs:List Hr}
theorem jnj {r:Int} (h:Hv6 w A n hs) (hn:n≤1000) (hr:hix hs 0=r):Calls prog 180 #[.slice A n c, .func (.func 132) #[] #[]] w fun e w'=>e= .returned (.int .i64 r)∧Below w.heap.size w w':=by
 have H:=qh h;have HN:=qh hn;have HR:=qh hr;clear h hn hr;go_enter func180,ntmps180;go_wp2
 go_loopw [8] (fun u wr=>∃(i:Nat),u= .int .i64 (i:Int)∧i≤n∧Below w.heap.size w wr∧hix (hs.drop i) i=r) (fun u _=>n - (intOf u).toNat)
 case atStart=>exact ⟨0,rfl,Nat.zero_le _,bi,HR.o⟩
 case round=>
  obtain ⟨i,rfl,hin,hb,hc⟩:=hrel;have _:=bm hb;have hnn:=HN.o;by_cases hi:i < n
  ·have p0:decide (i < n)=true:=by simpa using hi
   obtain ⟨b,o,rfl,hbl,hat⟩:=(H.o.below hb).at_ (by omega);obtain ⟨k0,k1⟩:=hat i (by rw [H.o.len];exact hi);rw [jrP (by rw [H.o.len];exact hi)] at hc;obtain ⟨⟨t,u⟩,hx⟩:∃x,hs.getD i (0,0)=x:=⟨_,rfl⟩;rw [hx] at k0 k1 hc;dsimp only at k0 k1;clear hat hx;unfold hix at hc;cases hq:jl3 (t,u)
   ·have HQ:Hd ((!jl3 (t,u))=true):=by show _=_;rw [hq];rfl
    rw [hq,if_neg (by simp)] at hc;subst hc;go_wp2_with (go_at_call 132;(with_reducible refine mo0 (jdZ HQ.o) fun w1 hb1 hc1 hf1 _=> ?_))
    go_ret;exact ⟨rfl,bi⟩
   ·have HQ:Hd ((!jl3 (t,u))=false):=by show _=_;rw [hq];rfl
    rw [hq,if_pos rfl] at hc;go_wp2_with (go_at_call 132;(with_reducible refine mo0 (jdZ HQ.o) fun w1 hb1 hc1 hf1 _=> ?_))
    go_roundw
    case rel=>exact ⟨i+1,by simp,by omega,bi,hc⟩
    case measure=>simp [intOf];omega
  ·have:i=n:=by omega
   subst this;have p0:decide (i < i)=false:=by simp
   rw [List.drop_eq_nil_of_le (by rw [H.o.len];exact Nat.le_refl _)] at hc;have hR:r= -1:=hc.symm;subst hR;go_wp2;go_ret;exact ⟨rfl,bi⟩
theorem jkt (h:Hv6 w A n hs) (hn:n≤1000):Calls prog 131 #[.slice A n c, .func (.func 132) #[] #[]] w fun e w'=>e= .returned (.bool (hs.any fun h=> !jl3 h))∧Below w.heap.size w w':=by
 obtain ⟨z,hz⟩:∃z,hix hs 0=z:=⟨_,rfl⟩;have hq:=jtW hs 0;rw [hz] at hq;rw [←hq];have H:=qh h;have HN:=qh hn;have HZ:=qh hz;clear h hn hz hq;go_enter func131,ntmps131;go_wp2_with (go_at_call 180;(with_reducible refine mo0 (jnj H.o HN.o HZ.o) fun w1 hb1 hc1 hf1 _=> ?_))
 go_ret;exact ⟨rfl,bi⟩
theorem jp8 {r:Int} (h:Hv6 w A n hs) (hn:n≤100000) (hr:jkg hs=r):Calls prog 74 #[.slice A n c] w fun e w'=>e= .returned (.int .i64 r)∧Below w.heap.size w w':=by
 have H:=qh h;unfold jkg at hr;rw [h.len] at hr;by_cases hb:1000 < n
 ·rw [if_pos hb] at hr;subst hr;have p0:decide (1000 < n)=true:=by simpa using hb
  clear h;go_enter func74,ntmps74;go_wp2;go_ret;exact ⟨rfl,bi⟩
 ·rw [if_neg hb] at hr;have p0:decide (1000 < n)=false:=by simpa using hb
  have HN:=qh (show n≤1000 by omega);have HR:=qh hr;clear h hr;go_enter func74,ntmps74;go_wp2_with (first|(go_at_call 131;(with_reducible refine mo0 (jkt H.o HN.o) fun w1 hb1 hc1 hf1 _=> ?_))|(go_at_call 64;(with_reducible refine mo0 (jap HR.o) fun w2 hb2 hc2 hf2 _=> ?_)))
  go_ret;exact ⟨rfl,bi⟩
end

theorem jfC (x y:Int) (W:World) (n:Nat):Calls prog 79 #[.int .i64 x, .int .i64 y] (W.drewN n) fun e w'=>e= .returned (.int .i64 (Lib.compareInt x y))∧∃m,w'=W.drewN m:=
 (Tryz.cmp_Compare_int x y (W.drewN n)).mono fun e w' ⟨he,hw⟩=>⟨he,n,hw⟩
section
variable {W:World} {p b o c:Nat} {hs:List Hr}
theorem jiT {i j:Nat} (h2:W.cell? ⟨p,0,none⟩=some (.slice (some ⟨b,o,none⟩) hs.length c)) (hw:Hrs W b o hs) (hi:i < hs.length) (hj:j < hs.length):
  Calls prog 78 #[.int .i64 (i:Int), .int .i64 (j:Int), .pointer (some ⟨p,0,none⟩)] W fun e w'=>e= .returned (.int .i64 (Lib.compareInt (hs.getD i (0,0)).1 (hs.getD j (0,0)).1))∧∃q,w'=W.drewN q:=by
 obtain ⟨c1,d1⟩:=hw i hi;obtain ⟨c2,d2⟩:=hw j hj;obtain ⟨⟨x,x'⟩,hx⟩:∃x,hs.getD i (0,0)=x:=⟨_,rfl⟩;obtain ⟨⟨y,y'⟩,hy⟩:∃x,hs.getD j (0,0)=x:=⟨_,rfl⟩;rw [hx] at c1 d1 ⊢;rw [hy] at c2 d2 ⊢;dsimp only at c1 d1 c2 d2 ⊢;obtain ⟨n,hn⟩:∃n,hs.length=n:=⟨_,rfl⟩;rw [hn] at h2 hi hj;clear hx hy hw hn;go_enter func78,ntmps78;go_wp2
 go_quiet ((go_at_call 79;with_reducible exact jfC _ _ _ _))
 go_wp2;go_ret;exact ⟨rfl,_,rfl⟩
end

section
variable {W:World} {p p1 q:Nat} {v:Int} {i j:Int}
theorem jsw (h1:W.cell? ⟨p,0,none⟩=some (.slice (some ⟨q,0,none⟩) 1 1)) (h2:W.cell? ⟨q,0,none⟩=some (.func (.func 78) #[] #[.pointer (some ⟨p1,0,none⟩)]))
  (hc:∀n,Calls prog 78 #[.int .i64 i, .int .i64 j, .pointer (some ⟨p1,0,none⟩)] (W.drewN n) fun e w'=>e= .returned (.int .i64 v)∧∃m,w'=W.drewN m):
  Calls prog 138 #[.int .i64 i, .int .i64 j, .pointer (some ⟨p,0,none⟩)] W fun e w'=>e= .returned (.int .i64 v)∧∃q,w'=W.drewN q:=by
 have HC:=qh hc;clear hc;go_enter func138,ntmps138;go_wp2
 go_loopw [11] (fun u wr=>∃(k n:Nat),u= .int .i64 (k:Int)∧k≤1∧wr=W.drewN n∧(k=1→v=0)) (fun u _=>1 - (intOf u).toNat)
 case atStart=>exact ⟨0,0,rfl,by omega,rfl,fun h=>by omega⟩
 case round=>
  obtain ⟨k,n,rfl,hk,rfl,hv⟩:=hrel;by_cases h0:k=0
  ·subst h0;clear hv;by_cases hv:v=0
   ·subst hv;go_wp2_with (go_at_call 78;(with_reducible refine (HC.o _).mono ?_);rintro e1 w1 ⟨rfl,m,rfl⟩)
    go_roundw
    case rel=>exact ⟨1,m,by simp,by omega,rfl,by simp⟩
    case measure=>simp [intOf];try omega
   ·have q1:(v != 0)=true:=by rw [bne_iff_ne];exact hv
    go_wp2_with (go_at_call 78;(with_reducible refine (HC.o _).mono ?_);rintro e1 w1 ⟨rfl,m,rfl⟩)
    go_ret;exact ⟨rfl,_,rfl⟩
  ·have h1:k=1:=by omega
   subst h1;have:=hv rfl;subst this;go_wp2;go_ret;exact ⟨rfl,_,rfl⟩
end

def jb8 {n:Nat} (i:Fin n):Value:= .int .i64 ((i.val:Nat):Int)
theorem jmY {n:Nat}:OneCell (jb8 (n:=n)):=fun _=>rfl
theorem jee {α:Type} [Inhabited α] (enc:α→Value) (W:World) (blk off n:Nat) (dk:Array α) (os:Array Obj) (a:Addr) (h1:a.block≠blk) (h2:a.block < W.heap.size):(sortWorld enc W blk off n dk os).cell? a=W.cell? a:=by
 unfold sortWorld;rw [Sort.cell?_grow _ _ _ (by rw [Sort.size_putRow];exact h2),Sort.cell?_putRow_other enc _ blk off dk a (Or.inl h1)];rfl
def cfH (hs:List Hr) {n:Nat} (i j:Fin n):Int:=Lib.compareInt (hs.getD i.val (0,0)).1 (hs.getD j.val (0,0)).1
structure SrtW (W:World) (blk p q p1 b o c m:Nat) (hs:List Hr):Prop where
 c1:W.cell? ⟨p,0,none⟩=some (.slice (some ⟨q,0,none⟩) 1 1)
 c2:W.cell? ⟨q,0,none⟩=some (.func (.func 78) #[] #[.pointer (some ⟨p1,0,none⟩)])
 c3:W.cell? ⟨p1,0,none⟩=some (.slice (some ⟨b,o,none⟩) hs.length c)
 cw:Hrs W b o hs
 n1:p≠blk
 n2:q≠blk
 n3:p1≠blk
 nw:b≠blk
 s1:p < W.heap.size
 s2:q < W.heap.size
 s3:p1 < W.heap.size
 sw:b < W.heap.size
 hl:hs.length=m+1
section
variable {W:World} {blk off p q p1 b o c m cap:Nat} {hs:List Hr}
theorem jo2 (h:SrtW W blk p q p1 b o c m hs) (n:Nat):CmpReads prog 138 #[.pointer (some ⟨p,0,none⟩)] (jb8 (n:=m+1)) (cfH hs) blk off n W:=fun k os dk _ x y=>by
 have e:∀(B z:Nat),B≠blk→B < W.heap.size→(sortWorld jb8 W blk off k dk os).cell? ⟨B,z,none⟩=W.cell? ⟨B,z,none⟩:=fun B z h1 h2=>jee _ _ _ _ _ _ _ _ h1 h2
 refine jsw (q:=q) (p1:=p1) (by rw [e _ _ h.n1 h.s1];exact h.c1) (by rw [e _ _ h.n2 h.s2];exact h.c2) (fun n=> ?_)
 have:=jiT (W:=(sortWorld jb8 W blk off k dk os).drewN n) (p:=p1) (b:=b) (o:=o) (c:=c) (hs:=hs) (i:=x.val) (j:=y.val) (by show (sortWorld jb8 W blk off k dk os).cell? _=_;rw [e _ _ h.n3 h.s3];exact h.c3)
  (fun j hj=>⟨by show (sortWorld jb8 W blk off k dk os).cell? _=_;rw [e _ _ h.nw h.sw];exact (h.cw j hj).1,by show (sortWorld jb8 W blk off k dk os).cell? _=_;rw [e _ _ h.nw h.sw];exact (h.cw j hj).2⟩) (by rw [h.hl];exact x.isLt) (by rw [h.hl];exact y.isLt)
 exact this.mono fun e' w' ⟨h1,r,h2⟩=>⟨h1,n+r,by rw [h2,World.drewN_drewN]⟩
end
section
variable {W:World} {blk off m cap:Nat} {caps:Array Value} {cf:Fin (m+1)→Fin (m+1)→Int}
theorem jie {n:Nat} (hC:∀n,CmpReads prog 138 caps (jb8 (n:=m+1)) cf blk off n W) (d:Array (Fin (m+1))) (hd:d.size=n) (hH:Sort.Holds jb8 W blk off d) (hm:n < 1000000):
  Calls prog 218 #[.slice (some ⟨blk,off,none⟩) n cap, .int .i64 0, .int .i64 (n:Int), .func (.func 138) #[] caps] W fun e w'=>e= .returned (.tuple #[])∧∃n,w'=(Sort.putRow jb8 W blk off (Sort.insertionSort (ltOf cf) d 0 d.size)).drewN n:=by
 subst hd;exact Tryz.insertionSortCmpFunc_one jb8 jmY cf 138 caps blk off cap 0 d.size d W (enters_of func138 (by kernel_rfl) rfl) (hC _) hH (Nat.zero_le _) (Nat.le_refl _) (by omega)
abbrev jcX (W:World) (blk off:Nat) (cf:Fin (m+1)→Fin (m+1)→Int) (d:Array (Fin (m+1))) (e:Ending) (w':World):Prop:=e= .returned (.tuple #[])∧∃n,w'=(Sort.putRow jb8 W blk off (Sort.insertionSort (ltOf cf) d 0 d.size)).drewN n
theorem jia {n:Nat} (hC:∀n,CmpReads prog 138 caps (jb8 (n:=m+1)) cf blk off n W) (d:Array (Fin (m+1))) (hd:d.size=n) (hH:Sort.Holds jb8 W blk off d) (hm:n < 20):
  Calls prog 181 #[.slice (some ⟨blk,off,none⟩) n cap, .int .i64 (n:Int), .func (.func 138) #[] caps] W (jcX W blk off cf d):=by
 have HI:=qh (jie (cap:=cap) hC d hd hH (by omega));show Calls _ _ _ _ fun e w'=>_
 unfold jcX;obtain ⟨V,hV⟩:∃V,Sort.putRow jb8 W blk off (Sort.insertionSort (ltOf cf) d 0 d.size)=V:=⟨_,rfl⟩;rw [hV] at HI ⊢;have q1:decide ((20:Int)≤(n:Int))=false:=by simp;omega
 have q2:decide ((20:Int) < (n:Int))=false:=by simp;omega
 clear hC hd hH hm hV;go_enter func181,ntmps181;go_wp2
 go_loopw [7,8] (fun a b wr=>a= .int .i64 0∧b= .int .i64 20∧wr=W) (fun _ _ _=>0)
 case atStart=>exact ⟨rfl,rfl,rfl⟩
 case round=>
  obtain ⟨rfl,rfl,rfl⟩:=hrel;go_wp2_with (go_at_call 218;(with_reducible refine HI.o.mono ?_);rintro e1 w1 ⟨rfl,k,rfl⟩)
  go_loopw [6] (fun a wr=>a= .int .i64 20∧wr=V.drewN k) (fun _ _=>0)
  case atStart=>exact ⟨rfl,rfl⟩
  case round=>
   obtain ⟨rfl,rfl⟩:=hrel;go_wp2
   go_end0
   exact ⟨rfl,_,rfl⟩
theorem jjy {n:Nat} (hC:∀n,CmpReads prog 138 caps (jb8 (n:=m+1)) cf blk off n W) (d:Array (Fin (m+1))) (hd:d.size=n) (hH:Sort.Holds jb8 W blk off d) (hm:n < 20):
  Calls prog 137 #[.slice (some ⟨blk,off,none⟩) n cap, .func (.func 138) #[] caps] W (jcX W blk off cf d):=by
 have HI:=qh (jia (cap:=cap) hC d hd hH (by omega));clear hC hd hH hm;go_enter func137,ntmps137;go_wp2_with (go_at_call 181;(with_reducible refine HI.o.mono ?_);rintro e1 w1 ⟨rfl,k,rfl⟩)
 go_end0
 exact ⟨rfl,_,rfl⟩
end

section
variable {W:World} {blk off q p1 b o c m cap:Nat} {hs:List Hr}
structure ByW (W:World) (blk q p1 b o c m:Nat) (hs:List Hr):Prop where
 c2:W.cell? ⟨q,0,none⟩=some (.func (.func 78) #[] #[.pointer (some ⟨p1,0,none⟩)])
 c3:W.cell? ⟨p1,0,none⟩=some (.slice (some ⟨b,o,none⟩) hs.length c)
 cw:Hrs W b o hs
 n2:q≠blk
 n3:p1≠blk
 nw:b≠blk
 sb:blk < W.heap.size
 s2:q < W.heap.size
 s3:p1 < W.heap.size
 sw:b < W.heap.size
 hl:hs.length=m+1
theorem ByW.boxed (h:ByW W blk q p1 b o c m hs) {T:TypeId}:SrtW (W.alloc (.cells #[.slice (some ⟨q,0,none⟩) 1 1] T)) blk W.heap.size q p1 b o c m hs:=by
 have hb:Below W.heap.size W (W.alloc (.cells #[.slice (some ⟨q,0,none⟩) 1 1] T)):=ja5 (Below.refl _ _) _;exact ⟨by simp,(hb.cell (p:=⟨q,0,none⟩) h.s2).trans h.c2,(hb.cell (p:=⟨p1,0,none⟩) h.s3).trans h.c3,h.cw.on hb h.sw,by have:=h.sb;omega,h.n2,h.n3,h.nw,by simp,by have:=h.s2;simp;omega,by have:=h.s3;simp;omega,by have:=h.sw;simp;omega,h.hl⟩
end
section
variable {W:World} {blk off q m cap:Nat} {cf:Fin (m+1)→Fin (m+1)→Int}
theorem jua {n k:Nat} (hC:∀T n,CmpReads prog 138 #[.pointer (some ⟨W.heap.size,0,none⟩)] (jb8 (n:=m+1)) cf blk off n (W.alloc (.cells #[.slice (some ⟨q,0,none⟩) k k] T))) (d:Array (Fin (m+1))) (hd:d.size=n) (hH:∀T,Sort.Holds jb8 (W.alloc (.cells #[.slice (some ⟨q,0,none⟩) k k] T)) blk off d) (hm:n < 20):
  Calls prog 77 #[.slice (some ⟨blk,off,none⟩) n cap, .slice (some ⟨q,0,none⟩) k k] W fun e w'=>e= .returned (.tuple #[])∧∃T n,w'=(Sort.putRow jb8 (W.alloc (.cells #[.slice (some ⟨q,0,none⟩) k k] T)) blk off (Sort.insertionSort (ltOf cf) d 0 d.size)).drewN n:=by
 have HI:=fun T=>qh (jjy (cap:=cap) (hC T) d hd (hH T) hm)
 clear hC hd hH hm;go_enter func77,ntmps77;go_wp2_with (go_at_call 137;(with_reducible refine (HI _).out.mono ?_);rintro e1 w1 ⟨rfl,k,rfl⟩)
 go_end0
 exact ⟨rfl,_,_,rfl⟩
end
end Go.Proofs.YtpkcjfpgemdfdaaGreatDoor
namespace Go.Proofs.YtpkcjfpgemdfdaaGreatDoor
open Go Go.RowKit Go.Sort Go.Proofs.Tryz

abbrev jlF (x:Nat):Value:= .int .i64 (x:Int)
def dOf (m:Nat) (zs:List Nat):Array (Fin (m+1)):=(zs.map (Fin.ofNat (m+1))).toArray
def jne {m:Nat} (cf:Fin (m+1)→Fin (m+1)→Int) (zs:List Nat):List Nat:=((Sort.insertionSort (ltOf cf) (dOf m zs) 0 zs.length).toList).map (·.val)
def jvq (hs:List Hr) (m:Nat) (zs:List Nat):List Nat:=jne (m:=m) (cfH hs) zs
theorem jcr (m:Nat) (zs:List Nat):(dOf m zs).size=zs.length:=by simp [dOf]
theorem jtY {m:Nat} {zs:List Nat} (hz:∀x∈zs,x < m+1) {j:Nat} (hj:j < zs.length):(jb8 (dOf m zs)[j]!)=jlF (zs[j]):=by
 have h1:(dOf m zs)[j]! =Fin.ofNat (m+1) zs[j]:=by
  rw [getElem!_pos _ _ (by rw [jcr];exact hj)];simp [dOf]
 rw [h1];have:=hz _ (List.getElem_mem hj);simp [jb8,jlF,Fin.ofNat,Nat.mod_eq_of_lt this]
theorem jj1 {α:Type} {enc:α→Value} [Inhabited α] {W:World} {base g cap N:Nat} {zs:List α} (h:W.ownsRow base 3 1 (.slice (some ⟨g,0,none⟩) N cap) N (zs.map enc)):
  zs.length=N∧g < W.heap.size∧base≤g∧(∃cur,W.heap[g]? =some (.cells cur 3 (0,0))∧N≤cap∧cap≤maxLen∧cur.size=cap)∧∀j (hj:j < zs.length),W.cell? ⟨g,0+j,none⟩=some (enc zs[j])∧W.frozen? ⟨g,0+j,none⟩=false:=by
 rcases h.2 with ⟨e,_⟩|⟨g',cap',cur,e,hb,hg,hn,hm,hs,ht⟩
 ·cases e
 ·injection e with e1 _ e3
  injection e1 with e1
  injection e1 with e1
  subst e1;subst e3;have hl:zs.length=N:=by simpa using h.1
  refine ⟨hl,(Array.getElem?_eq_some_iff.1 hg).1,hb,⟨cur,hg,hn,hm,by simpa using hs⟩,fun j hj=>⟨?_,by simp [World.frozen?,hg]⟩⟩;have e1:(cur.toList.take (N*1))[j]? =(zs.map enc)[j]? :=by rw [ht]
  rw [List.getElem?_take,if_pos (by omega),Array.getElem?_toList,List.getElem?_map,List.getElem?_eq_getElem (by omega)] at e1;simp only [World.cell?,hg,Nat.zero_add];simpa using e1
theorem jnE {α:Type} {enc:α→Value} [Inhabited α] {W:World} {base g cap N:Nat} {cur:Array Value} {s:Array α} (hg:W.heap[g]? =some (.cells cur 3 (0,0))) (hb:base≤g) (hn:N≤cap) (hm:cap≤maxLen) (hc:cur.size=cap) (hs:s.size=N):
  (putRow enc W g 0 s).ownsRow base 3 1 (.slice (some ⟨g,0,none⟩) N cap) N (s.toList.map enc):=by
 refine ⟨by simp [hs], .inr ⟨g,cap,putCells enc 0 s cur,rfl,hb, ?_,hn,hm,by simp [putCells,hc], ?_⟩⟩
 ·simp [putRow,mapBlock,Array.getElem?_modify,hg,onCells]
 ·apply List.ext_getElem?;intro j;rw [List.getElem?_take,List.getElem?_map,Array.getElem?_toList,Array.getElem?_toList];by_cases hj:j < N
  ·have hjc:j < cur.size:=by omega
   simp only [Nat.mul_one,if_pos hj,putCells,Array.getElem?_mapIdx,Array.getElem?_eq_getElem hjc,Option.map_some];rw [if_pos (by omega),Array.getElem?_eq_getElem (by omega)];simp [getElem!_pos,show j < s.size by omega]
  ·rw [if_neg (by omega),Array.getElem?_eq_none (by omega)];rfl
theorem jhS {α:Type} {enc:α→Value} [Inhabited α] (W:World) (g:Nat) (s:Array α):W.grownBy (putRow enc W g 0 s) (some g):=
 ⟨rfl,rfl,rfl,by simp [putRow,mapBlock],fun k _ hne=>by
   have:g≠k:=fun e=>hne (by rw [e])
   simp only [putRow,mapBlock,Array.getElem?_modify,if_neg this]⟩
theorem jg1 {α:Type} {enc:α→Value} [Inhabited α] (W W':World) (g:Nat) (s:Array α) (h1:W'.os=W.os) (h2:W'.tape=W.tape) (h3:W'.output=W.output) (h4:W'.heap=(putRow enc W g 0 s).heap):W.grownBy W' (some g):=
 ⟨h1,h2,h3,by rw [h4];exact (jhS W g s).size,fun k hk hne=>by rw [h4];exact (jhS W g s).block k hk hne⟩
theorem jf2 {A B C:World} {r:Option Nat} (h:A.grownBy B r) (k:B.grownBy C r):A.grownBy C r:=
 ⟨k.os.trans h.os,k.tape.trans h.tape,k.output.trans h.output,Nat.le_trans h.size k.size,fun i hi hne=>(k.block i (Nat.lt_of_lt_of_le hi h.size) hne).trans (h.block i hi hne)⟩
theorem jlU (x y:Int):Lib.compareInt x y < 0↔x < y:=by unfold Lib.compareInt;split <;> (try split) <;> omega
theorem jp7 (hs:List Hr) (n:Nat):SWO (ltOf (cfH hs (n:=n))) where
 irrefl x:=by simp [ltOf,cfH,jlU]
 trans x y z:=by simp only [ltOf,cfH,jlU,decide_eq_true_iff];omega
 ntrans x y z:=by simp only [ltOf,cfH,jlU,decide_eq_false_iff_not];omega
theorem jmu {m:Nat} {cf:Fin (m+1)→Fin (m+1)→Int} (hw:SWO (ltOf cf)) (zs:List Nat):(Sort.insertionSort (ltOf cf) (dOf m zs) 0 zs.length).size=zs.length:=by
 rw [show (Sort.insertionSort (ltOf cf) (dOf m zs) 0 zs.length).size=(dOf m zs).size from (insertionSort_holds hw (dOf m zs) 0 zs.length (Nat.zero_le _) (by rw [jcr];exact Nat.le_refl _)).1.1,jcr]
section
variable {W:World} {base g q p1 b o c m cap N:Nat} {hs:List Hr} {zs:List Nat}
theorem jtl {k:Nat} {cf:Fin (m+1)→Fin (m+1)→Int} (hw:SWO (ltOf cf)) (hC:∀T n,CmpReads prog 138 #[.pointer (some ⟨W.heap.size,0,none⟩)] (jb8 (n:=m+1)) cf g 0 n (W.alloc (.cells #[.slice (some ⟨q,0,none⟩) k k] T))) (hrow:W.ownsRow base 3 1 (.slice (some ⟨g,0,none⟩) N cap) N (zs.map jlF)) (hz:∀x∈zs,x < m+1) (hN:N < 20):
  Calls prog 77 #[.slice (some ⟨g,0,none⟩) N cap, .slice (some ⟨q,0,none⟩) k k] W fun e w'=>e= .returned (.tuple #[])∧w'.ownsRow base 3 1 (.slice (some ⟨g,0,none⟩) N cap) N ((jne cf zs).map jlF)∧W.grownBy w' (some g):=by
 obtain ⟨hl,hg,hbg,⟨cur,hcur,hn,hcm,hcs⟩,hH⟩:=jj1 hrow;refine (jua hC (dOf m zs) (by rw [jcr,hl]) (fun T j hj=> ?_) hN).mono ?_
 ·rw [jcr] at hj;obtain ⟨h1,h2⟩:=hH j hj;rw [jtY hz hj];exact ⟨(World.cell?_alloc_old _ _ _ (by show g≠W.heap.size;omega)).trans h1,(World.frozen?_alloc_old _ _ _ (by show g≠W.heap.size;omega)).trans h2⟩
 ·rintro e w' ⟨he,T,r,rfl⟩
  have hal:(W.alloc (.cells #[.slice (some ⟨q,0,none⟩) k k] T)).heap[g]? =some (.cells cur 3 (0,0)):=(Below.heap_alloc _ _ _ hg).trans hcur;rw [jcr]
  have hst:(jne cf zs).map jlF=(Sort.insertionSort (ltOf cf) (dOf m zs) 0 zs.length).toList.map jb8:=by
   unfold jne;rw [List.map_map];rfl
  rw [hst];exact ⟨he,jnE hal hbg hn hcm hcs (by rw [jmu hw,hl]),jf2 (World.grownBy_alloc _ (.cells #[.slice (some ⟨q,0,none⟩) k k] T) _) (jg1 (enc:=jb8) _ _ g (Sort.insertionSort (ltOf cf) (dOf m zs) 0 zs.length) rfl rfl rfl rfl)⟩
theorem jqs {zs:List Int} (hrow:W.ownsRow base 3 1 (.slice (some ⟨g,0,none⟩) N cap) N (zs.map (Value.int .i64))) (hN:N < 4611686018427387904):
  Calls prog 81 #[.slice (some ⟨g,0,none⟩) N cap] W fun e w'=>e= .returned (.tuple #[])∧w'.ownsRow base 3 1 (.slice (some ⟨g,0,none⟩) N cap) N ((zs.mergeSort fun x y=>decide (x≤y)).map (Value.int .i64))∧W.grownBy w' (some g):=by
 obtain ⟨hl,hg,hbg,⟨cur,hcur,hn,hcm,hcs⟩,hH⟩:=jj1 hrow;subst hl;refine (Tryz.slices_Sort_int g 0 cap zs W (fun j hj=> ?_) hg hN).mono ?_
 ·have hj':j < zs.length:=by simpa using hj
  obtain ⟨h1,h2⟩:=hH j hj';exact ⟨by rw [h1];simp [hj'],h2⟩
 ·rintro e w' ⟨he,n,os,rfl⟩
  have h1:=jnE (enc:=Value.int .i64) (W:=Sort.ahead W n) (s:=(zs.mergeSort fun x y=>decide (x≤y)).toArray) hcur hbg hn hcm hcs (by simp);refine ⟨he,Lib.ownsRow_grow h1 0 os,jf2 (B:=putRow (Value.int .i64) (Sort.ahead W n) g 0 (zs.mergeSort fun x y=>decide (x≤y)).toArray) (jg1 (enc:=Value.int .i64) _ _ g (zs.mergeSort fun x y=>decide (x≤y)).toArray rfl rfl rfl rfl) ?_⟩;have:=Lib.below_grow (putRow (Value.int .i64) (Sort.ahead W n) g 0 (zs.mergeSort fun x y=>decide (x≤y)).toArray).heap.size _ (Nat.le_refl _) 0 os;exact ⟨this.os,this.tape,this.output,this.size,fun k hk _=>this.block k hk⟩
theorem joe {zs:List Nat} {k c':Nat} (hrow:W.ownsRow base 3 1 (.slice (some ⟨g,0,none⟩) N cap) N (zs.map jlF)) (hk:k≤N) (hN:N≤100000):
  Calls prog 80 #[.slice (some ⟨g,0,none⟩) k c'] W fun e w'=>∃v',e= .returned v'∧w'.ownsRow W.heap.size 3 1 v' k (((zs.take k).map Int.ofNat).map (Value.int .i64))∧v'≠ .slice none 0 0∧Below W.heap.size W w':=by
 obtain ⟨hl,hg,hbg,_,hH⟩:=jj1 hrow;refine (Tryz.slices_Clone_int g 0 k c' (zs.map Int.ofNat) W (by simp;omega) (by omega) (fun j hj=> ?_)).mono ?_
 ·have hj':j < zs.length:=by simpa using hj
  rw [(hH j hj').1];simp [hj',jlF]
 ·rintro e w' ⟨v',he,h1,h2,h3⟩
  exact ⟨v',he,by rw [List.map_take];exact h1,h2,h3⟩
end
end Go.Proofs.YtpkcjfpgemdfdaaGreatDoor
