/- Parts. -/
import Derived.Test.YteokfcjdfjhhhaaGreatDoorMy
set_option linter.all false
set_option maxRecDepth 100000
set_option maxHeartbeats 8000000
namespace Go.Proofs.YteokfcjdfjhhhaaGreatDoor
open Go Go.RowKit

structure Lay where
 grain:List UInt8
 mass:Int
 shares:List (List UInt8×List UInt8)
abbrev jaA:Lay:=⟨[],0,[]⟩
structure LyAt (w:World) (b o:Nat) (x:Lay):Prop where
 at_:∃A c,w.cell? ⟨b,o,none⟩=some (bs x.grain)∧w.cell? ⟨b,o+1,none⟩=some (.int .i64 x.mass)∧w.cell? ⟨b,o+2,none⟩=some (.slice A x.shares.length c)∧Pv w A x.shares.length x.shares
theorem LyAt.below {w w':World} {b o:Nat} {x:Lay} (h:LyAt w b o x) (hb:Below w.heap.size w w'):LyAt w' b o x:=by
 obtain ⟨A,c,h1,h2,h3,h4⟩:=h.at_;exact ⟨⟨A,c,ja5 hb h1,ja5 hb h2,ja5 hb h3,h4.below hb⟩⟩
structure Lv (w:World) (A:Option Addr) (n:Nat) (ls:List Lay):Prop where
 len:ls.length=n
 at_:0 < n→∃b o,A=some ⟨b,o,none⟩∧b < w.heap.size∧∀j,j < n→LyAt w b (o+j*3) (ls.getD j jaA)
theorem Lv.below {w w':World} {A:Option Addr} {n:Nat} {ls:List Lay} (h:Lv w A n ls) (hb:Below w.heap.size w w'):Lv w' A n ls:=
 ⟨h.len,fun hn=>by
   obtain ⟨b,o,e,h1,h2⟩:=h.at_ hn
   exact ⟨b,o,e,Nat.lt_of_lt_of_le h1 hb.size,fun j hj=>(h2 j hj).below hb⟩⟩
noncomputable def jaj (x:Lay):Int:=if jaZ x.grain=false then 8 else if x.mass < 1∨999999999 < x.mass then 3 else jaw x.shares
structure LayIn (x:Lay):Prop where
 mass:R64 x.mass
 many:x.shares.length≤100000
 len:∀p∈x.shares,p.1.length < 4294967281∧p.2.length < 4294967281
theorem jen {w:World} {A:Option Addr} {n c:Nat} {ls:List (List UInt8×List UInt8)} {k:Int} (hk:jaw ls=k) (hE:Env w) (hv:Pv w A n ls) (hl:∀p∈ls,p.1.length < 4294967281∧p.2.length < 4294967281):
  Calls Tryz.prog 7 #[.slice A n c] w fun e w'=>e= .returned (.int .i64 k)∧Below w.heap.size w w':=by
 unfold jaw at hk;rw [hv.len] at hk;by_cases h0:n=0
 ·rw [if_pos h0] at hk;subst h0;subst hk;exact jid
 ·rw [if_neg h0] at hk;by_cases h1:64 < n
  ·rw [if_pos h1] at hk;subst hk;exact jiO h1
  ·rw [if_neg h1] at hk;exact jme hE hv (by omega) (by omega) hl hk
section
variable {w:World} {A:Option Addr} {n c:Nat} {x:Lay}
theorem jfx {k:Int} (hk:jaj x=k) (hE:Env w) (hv:Pv w A x.shares.length x.shares) (hi:LayIn x):
  Calls Tryz.prog 9 #[.agg #[bs x.grain, .int .i64 x.mass, .slice A x.shares.length c]] w fun e w'=>e= .returned (.int .i64 k)∧Below w.heap.size w w':=by
 obtain ⟨g,m,ls⟩:=x;have hil:=hi.len;unfold jaj at hk;dsimp only at hk hv hil ⊢;have HE:=qh hE;have HV:=qh hv;have HL:=qh hil;clear hE hv hil hi;obtain ⟨n,hn⟩:∃n,ls.length=n:=⟨_,rfl⟩;rw [hn] at HV ⊢;clear hn;cases hg:jaZ g with
 | false=>
   rw [hg,if_pos rfl] at hk;subst hk;have HG:=qh hg;clear hg;go_enter Tryz.func9,Tryz.ntmps9;go_wp2_with (go_at_call 27;(with_reducible refine mo1 w (jaK HG.out) (by go_size) fun w1 hb1 hc1 hf1 z1_0 _=> ?_))
   go_ret;exact ⟨rfl,bi⟩
 | true=>
   rw [hg,if_neg (by simp)] at hk;have HG:=qh hg;clear hg;by_cases h1:m < 1
   ·rw [if_pos (Or.inl h1)] at hk;subst hk;have q1:decide (m < 1)=true:=by simpa using h1
    clear h1;go_enter Tryz.func9,Tryz.ntmps9;go_wp2_with (go_at_call 27;(with_reducible refine mo1 w (jaK HG.out) (by go_size) fun w1 hb1 hc1 hf1 z1_0 _=> ?_))
    go_ret;exact ⟨rfl,bi⟩
   ·have q1:decide (m < 1)=false:=by simpa using h1
    by_cases h2:999999999 < m
    ·rw [if_pos (Or.inr h2)] at hk;subst hk;have q2:decide (999999999 < m)=true:=by simpa using h2
     clear h1 h2;go_enter Tryz.func9,Tryz.ntmps9;go_wp2_with (go_at_call 27;(with_reducible refine mo1 w (jaK HG.out) (by go_size) fun w1 hb1 hc1 hf1 z1_0 _=> ?_))
     go_ret;exact ⟨rfl,bi⟩
    ·rw [if_neg (fun h=>h.elim h1 h2)] at hk;have q2:decide (999999999 < m)=false:=by simpa using h2
     have HK:=qh hk;clear h1 h2 hk;go_enter Tryz.func9,Tryz.ntmps9
     go_wp2_with (first
      | (go_at_call 27;(with_reducible refine mo1 w (jaK HG.out) (by go_size) fun w1 hb1 hc1 hf1 z1_0 _=> ?_))
      | (go_at_call 7;(with_reducible refine mo1 w (jen HK.out (HE.out.below bi) (HV.out.below bi) HL.out) (by go_size) fun w2 hb2 hc2 hf2 z2_0 _=> ?_)))
     go_ret;exact ⟨rfl,bi⟩
end
section
variable {w:World} {A:Option Addr} {n c:Nat} {ls:List Lay} {f:Lay→Int}
theorem jeZ (h:Lv w A n ls) (hn:n≤100000) (hf:∀x∈ls,∀W,Below w.heap.size w W→∀B d,Pv W B x.shares.length x.shares→Calls Tryz.prog 9 #[.agg #[bs x.grain, .int .i64 x.mass, .slice B x.shares.length d]] W fun e w'=>e= .returned (.int .i64 (f x))∧Below W.heap.size W w'):
  Calls Tryz.prog 97 #[.func (.func 9) #[] #[], .slice A n c] w fun e w'=>e= .returned (.int .i64 (jab f ls))∧Below w.heap.size w w':=by
 obtain ⟨R,hR⟩:∃R,jab f ls=R:=⟨_,rfl⟩;rw [hR];have HR:=qh hR;have H:=qh h;have HN:=qh hn;have HF:=qh hf;clear hR h hn hf;go_enter Tryz.func97,Tryz.ntmps97;go_wp2
 go_loopw [10] (fun u wr=>∃(i:Nat),u= .int .i64 (i:Int)∧Below w.heap.size w wr∧i≤n∧jab f (ls.drop i)=R) (fun u _=>n - (intOf u).toNat)
 case atStart=>exact ⟨0,rfl,bi,by omega,HR.out⟩
 case round=>
  obtain ⟨i,rfl,hb,hin,hc⟩:=hrel;have _:=bm hb;by_cases hi:i < n
  ·have q0:decide ((i:Int) < (n:Int))=true:=by simp;exact hi
   obtain ⟨b,o,rfl,hbl,hcell⟩:=(H.out.below hb).at_ (by omega);obtain ⟨B,d,hx,hy,hz,hp⟩:=(hcell i hi).at_;have hil:i < ls.length:=by rw [H.out.len];exact hi
   rw [jaH (d:=jaA) hil] at hc;have hmem:ls.getD i jaA∈ls:=by rw [List.getD_eq_getElem?_getD,List.getElem?_eq_getElem hil];exact List.getElem_mem hil
   obtain ⟨x,hxx⟩:∃x,ls.getD i jaA=x:=⟨_,rfl⟩;rw [hxx] at hx hy hz hp hc hmem;have HX:Hid (∀W,Below wr.heap.size wr W→Calls Tryz.prog 9 #[.agg #[bs x.grain, .int .i64 x.mass, .slice B x.shares.length d]] W fun e w'=>e= .returned (.int .i64 (f x))∧Below W.heap.size W w'):=qh (fun W hW=>HF.out x hmem W (ja1 hb hW) B d (hp.below hW));have hnn:=HN.out;have HI:=qh hi;obtain ⟨x1,hx1⟩:∃y,x.grain=y:=⟨_,rfl⟩;obtain ⟨x2,hx2⟩:∃y,x.mass=y:=⟨_,rfl⟩;obtain ⟨x3,hx3⟩:∃y,x.shares.length=y:=⟨_,rfl⟩;rw [hx1] at hx HX;rw [hx2] at hy HX;rw [hx3] at hz HX;clear hcell hmem hil hxx hx1 hx2 hx3 hp;by_cases h0:f x=0
   ·have HC:Hid (jab f (ls.drop (i+1))=R):=qh (by rw [←hc,jae h0]);rw [h0] at HX;clear hc h0 hi;go_wp2_with (go_at_call 9;(with_reducible refine mo0 (HX.out _ bi) fun w1 hb1 hc1 hf1 _=> ?_))
    exact ⟨⟨i+1,by simp,bi,HI.out,HC.out⟩,by have:=HI.out;simp [intOf];omega⟩
   ·have hR:R=f x:=by rw [←hc,jaT h0]
    subst hR;obtain ⟨y,hy'⟩:∃y,f x=y:=⟨_,rfl⟩;rw [hy'] at HX;have q1:(y != 0)=true:=by rw [bne_iff_ne,←hy'];exact h0
    have HY:=qh hy';clear hc h0 hi hy' HR;go_wp2_with (go_at_call 9;(with_reducible refine mo0 (HX.out _ bi) fun w1 hb1 hc1 hf1 _=> ?_))
    go_ret;exact ⟨by rw [HY.out];rfl,bi⟩
  ·have q0:decide (i < n)=false:=by simp;omega
   rw [List.drop_eq_nil_of_le (by rw [H.out.len];omega)] at hc;have hR:R=0:=by rw [←hc];rfl
   subst hR;clear hc hi HR;go_wp2;go_ret;exact ⟨rfl,bi⟩
theorem jez {k:Int} (hk:jab jaj ls=k) (hE:Env w) (h:Lv w A n ls) (hn:n≤100000) (hi:∀x∈ls,LayIn x):
  Calls Tryz.prog 97 #[.func (.func 9) #[] #[], .slice A n c] w fun e w'=>e= .returned (.int .i64 k)∧Below w.heap.size w w':=by
 subst hk;exact jeZ h hn (fun x hx W hW B d hv=>jfx rfl (hE.below hW) hv (hi x hx))
end

theorem jeP {α:Type} [DecidableEq α] {a b:List α} {i:Nat} {d:α} (ha:i < a.length) (hb:i < b.length):decide (a.drop i=b.drop i)=(decide (a.getD i d=b.getD i d) && decide (a.drop (i+1)=b.drop (i+1))):=by
 rw [Bool.eq_iff_iff,Bool.and_eq_true,decide_eq_true_iff,decide_eq_true_iff,decide_eq_true_iff,jaH (d:=d) ha,jaH (d:=d) hb,List.cons.injEq]
section
variable {w:World} {A B:Option Addr} {n m c d:Nat} {zs ys:List Int}
theorem jiG (h:n≠m):Calls Tryz.prog 26 #[.slice A n c, .slice B m d] w fun e w'=>e= .returned (.bool false)∧Below w.heap.size w w':=by
 have q0:((n:Int)==(m:Int))=false:=by rw [beq_eq_false_iff_ne];omega
 have q1:(n==m)=false:=by rw [beq_eq_false_iff_ne];exact h
 go_enter Tryz.func26,Tryz.ntmps26;go_wp2;go_ret;exact ⟨rfl,bi⟩
theorem jie {r:Bool} (h:Iv w A n zs) (h':Iv w B n ys) (hn:n≤100000) (hr:decide (zs=ys)=r):Calls Tryz.prog 26 #[.slice A n c, .slice B n d] w fun e w'=>e= .returned (.bool r)∧Below w.heap.size w w':=by
 have H:=qh h;have H':=qh h';have HN:=qh hn;have HR:=qh hr;clear h h' hn hr;go_enter Tryz.func26,Tryz.ntmps26;go_wp2
 go_loopw [5] (fun u wr=>∃(i:Nat),u= .int .i64 (i:Int)∧i≤n∧Below w.heap.size w wr∧decide (zs.drop i=ys.drop i)=r) (fun u _=>n - (intOf u).toNat)
 case atStart=>exact ⟨0,rfl,Nat.zero_le _,bi,HR.out⟩
 case round=>
  obtain ⟨i,rfl,hin,hb,hc⟩:=hrel;have _:=bm hb;have hnn:=HN.out;by_cases hi:i < n
  ·have p0:decide (i < n)=true:=by simpa using hi
   obtain ⟨b,o,rfl,hbl,hat⟩:=(H.out.below hb).at_ (by omega);obtain ⟨b',o',rfl,hbl',hat'⟩:=(H'.out.below hb).at_ (by omega);have k0:=hat i hi;have k1:=hat' i hi;rw [jeP (d:=0) (by rw [H.out.len];exact hi) (by rw [H'.out.len];exact hi)] at hc;obtain ⟨x,hx⟩:∃x,zs.getD i 0=x:=⟨_,rfl⟩;obtain ⟨y,hy⟩:∃y,ys.getD i 0=y:=⟨_,rfl⟩;rw [hx] at k0 hc;rw [hy] at k1 hc;have HII:=qh hi;clear hat hat' hx hy;by_cases hxy:x=y
   ·subst hxy;have HC:Hid (decide (zs.drop (i+1)=ys.drop (i+1))=r):=qh (by simpa using hc);clear hc;go_upto_region 6 with (fail)
    go_quiet (fail)
    go_wp2;exact ⟨⟨i+1,by simp,HII.out,bi,HC.out⟩,by have:=HII.out;simp [intOf];omega⟩
   ·have q0:(x==y)=false:=by rw [beq_eq_false_iff_ne];exact hxy
    have q1:(x != y)=true:=by rw [bne_iff_ne];exact hxy
    have hR:r=false:=by rw [←hc];simp [hxy]
    subst hR;clear hc;go_upto_region 6 with (fail)
    go_quiet (fail)
    go_wp2;go_ret;exact ⟨rfl,bi⟩
  ·have p0:decide (i < n)=false:=by simp;omega
   rw [List.drop_eq_nil_of_le (by rw [H.out.len];omega),List.drop_eq_nil_of_le (by rw [H'.out.len];omega)] at hc;have hR:r=true:=by rw [←hc];rfl
   subst hR;clear hc hi;go_wp2;go_ret;exact ⟨rfl,bi⟩
theorem jgj {r:Bool} (h:Iv w A n zs) (h':Iv w B m ys) (hn:n≤100000) (hr:decide (zs=ys)=r):Calls Tryz.prog 26 #[.slice A n c, .slice B m d] w fun e w'=>e= .returned (.bool r)∧Below w.heap.size w w':=by
 by_cases e:n=m
 ·subst e;exact jie h h' hn hr
 ·have hR:r=false:=by
   rw [←hr,decide_eq_false_iff_not]
   rintro rfl
   exact e (h.len.symm.trans h'.len)
  subst hR;exact jiG e
end
section
variable {w:World} {A B:Option Addr} {n m c d:Nat} {zs ys:List (List UInt8×List UInt8)}
theorem jg0 (h:n≠m):Calls Tryz.prog 17 #[.slice A n c, .slice B m d] w fun e w'=>e= .returned (.bool false)∧Below w.heap.size w w':=by
 have q0:((n:Int)==(m:Int))=false:=by rw [beq_eq_false_iff_ne];omega
 have q1:(n==m)=false:=by rw [beq_eq_false_iff_ne];exact h
 go_enter Tryz.func17,Tryz.ntmps17;go_wp2;go_ret;exact ⟨rfl,bi⟩
theorem jgH {r:Bool} (h:Pv w A n zs) (h':Pv w B n ys) (hn:n≤100000) (hr:decide (zs=ys)=r):Calls Tryz.prog 17 #[.slice A n c, .slice B n d] w fun e w'=>e= .returned (.bool r)∧Below w.heap.size w w':=by
 have H:=qh h;have H':=qh h';have HN:=qh hn;have HR:=qh hr;clear h h' hn hr;go_enter Tryz.func17,Tryz.ntmps17;go_wp2
 go_loopw [5] (fun u wr=>∃(i:Nat),u= .int .i64 (i:Int)∧i≤n∧Below w.heap.size w wr∧decide (zs.drop i=ys.drop i)=r) (fun u _=>n - (intOf u).toNat)
 case atStart=>exact ⟨0,rfl,Nat.zero_le _,bi,HR.out⟩
 case round=>
  obtain ⟨i,rfl,hin,hb,hc⟩:=hrel;have _:=bm hb;have hnn:=HN.out;by_cases hi:i < n
  ·have p0:decide (i < n)=true:=by simpa using hi
   obtain ⟨b,o,rfl,hbl,hat⟩:=(H.out.below hb).at_ (by omega);obtain ⟨b',o',rfl,hbl',hat'⟩:=(H'.out.below hb).at_ (by omega);obtain ⟨k0,k1⟩:=hat i hi;obtain ⟨k2,k3⟩:=hat' i hi;rw [jeP (d:=([],[])) (by rw [H.out.len];exact hi) (by rw [H'.out.len];exact hi)] at hc;obtain ⟨⟨x1,x2⟩,hx⟩:∃x,zs.getD i ([],[])=x:=⟨_,rfl⟩;obtain ⟨⟨y1,y2⟩,hy⟩:∃y,ys.getD i ([],[])=y:=⟨_,rfl⟩;rw [hx] at k0 k1 hc;rw [hy] at k2 k3 hc;dsimp only at k0 k1 k2 k3;have HII:=qh hi;clear hat hat' hx hy;by_cases hxy:x1=y1
   ·subst hxy;by_cases hxy:x2=y2
    ·subst hxy;have HC:Hid (decide (zs.drop (i+1)=ys.drop (i+1))=r):=qh (by simpa using hc);clear hc;go_upto_region 6 with (fail)
     go_quiet (fail)
     go_wp2;exact ⟨⟨i+1,by simp,HII.out,bi,HC.out⟩,by have:=HII.out;simp [intOf];omega⟩
    ·have q0:(x2==y2)=false:=by rw [beq_eq_false_iff_ne];exact hxy
     have hR:r=false:=by rw [←hc];simp [hxy]
     subst hR;clear hc;go_upto_region 6 with (fail)
     go_quiet (fail)
     go_wp2;go_ret;exact ⟨rfl,bi⟩
   ·have q0:(x1==y1)=false:=by rw [beq_eq_false_iff_ne];exact hxy
    have hR:r=false:=by rw [←hc];simp [hxy]
    subst hR;clear hc;go_upto_region 6 with (fail)
    go_quiet (fail)
    go_wp2;go_ret;exact ⟨rfl,bi⟩
  ·have p0:decide (i < n)=false:=by simp;omega
   rw [List.drop_eq_nil_of_le (by rw [H.out.len];omega),List.drop_eq_nil_of_le (by rw [H'.out.len];omega)] at hc;have hR:r=true:=by rw [←hc];rfl
   subst hR;clear hc hi;go_wp2;go_ret;exact ⟨rfl,bi⟩
theorem jeJ {r:Bool} (h:Pv w A n zs) (h':Pv w B m ys) (hn:n≤100000) (hr:decide (zs=ys)=r):Calls Tryz.prog 17 #[.slice A n c, .slice B m d] w fun e w'=>e= .returned (.bool r)∧Below w.heap.size w w':=by
 by_cases e:n=m
 ·subst e;exact jgH h h' hn hr
 ·have hR:r=false:=by
   rw [←hr,decide_eq_false_iff_not]
   rintro rfl
   exact e (h.len.symm.trans h'.len)
  subst hR;exact jg0 e
end
section
variable {w:World} {A B:Option Addr} {n m c d:Nat} {zs ys:List (List UInt8×List UInt8)} {g h:List UInt8} {x y:Int}
theorem jfk {r:Bool} (h1:Pv w A n zs) (h2:Pv w B m ys) (hn:n≤100000) (hr:decide (zs=ys)=r):Calls Tryz.prog 14 #[.agg #[bs g, .int .i64 x, .slice A n c], .agg #[bs g, .int .i64 x, .slice B m d]] w fun e w'=>e= .returned (.bool r)∧Below w.heap.size w w':=by
 have H1:=qh h1;have H2:=qh h2;have HN:=qh hn;have HR:=qh hr;clear h1 h2 hn hr;go_enter Tryz.func14,Tryz.ntmps14;go_wp2_with (go_at_call 17;(with_reducible refine mo2 w (jeJ (H1.out.below bi) (H2.out.below bi) HN.out HR.out) (by go_size) fun w1 hb1 hc1 hf1 z1_0 z1_1 _=> ?_))
 go_ret;exact ⟨rfl,bi⟩
theorem jom {l:List UInt8}:Calls Tryz.prog 24 #[bs l] w fun e w'=>e= .returned (.slice (some ⟨w.heap.size,0,none⟩) 1 1)∧Pv w' (some ⟨w.heap.size,0,none⟩) 1 [(l,[49])]∧Below w.heap.size w w':=by
 go_enter Tryz.func24,Tryz.ntmps24;go_wp2;go_ret;refine ⟨rfl,⟨rfl,fun _=>⟨_,0,rfl,by simp,fun j hj=> ?_⟩⟩,bi⟩;obtain rfl:j=0:=by omega
 exact ⟨by simp,by simp⟩
end
end Go.Proofs.YteokfcjdfjhhhaaGreatDoor
