/- Parts. -/
import Derived.Test.YtfagcpcikjlboaaGreatDoorPosG
import Derived.Deep.DeepCutAuto
import Derived.Deep.CutRange
import Derived.Deep.CutBlock
set_option linter.all false
set_option maxRecDepth 100000
set_option maxHeartbeats 8000000
namespace Go.Proofs.YtfagcpcikjlboaaGreatDoor
open Go Go.RowKit Go.Proofs.Tryz

section
variable {w:World}
theorem jeo (n a b:Int):Calls prog 65 #[.int .i64 n, .int .i64 a, .int .i64 b] w fun e w'=>e= .returned (.bool (decide (a≤n) && decide (n≤b)))∧Below w.heap.size w w':=by
 go_enter func65,ntmps65;by_cases h1:a≤n <;> by_cases h2:n≤b
 all_goals go_wp2
 all_goals go_ret
 all_goals exact ⟨by simp [h1,h2],bi⟩
end
abbrev Hr:=Int×Int
structure Clim where
 c:Int
 m:Int
 d:Int
 p:Int
abbrev hrv (h:Hr):Value:= .agg #[.int .i64 h.1, .int .i64 h.2]
abbrev clv (c:Clim):Value:= .agg #[.int .i64 c.c, .int .i64 c.m, .int .i64 c.d, .int .i64 c.p]
def jhG (h:Hr) (c:Clim):Bool:=(decide (c.c≤h.1) && decide (h.1≤c.m)) && (decide (c.d≤h.2) && decide (h.2≤c.p))
section
variable {w:World}
theorem jjB (h:Hr) (c:Clim):Calls prog 24 #[hrv h,clv c] w fun e w'=>e= .returned (.bool (jhG h c))∧Below w.heap.size w w':=by
 obtain ⟨t,u⟩:=h;obtain ⟨c1,c2,c3,c4⟩:=c;go_enter func24,ntmps24;cases f1:(decide (c1≤t) && decide (t≤c2))
 ·go_wp2_with (go_at_call 65;(with_reducible refine mo2 w (jeo t c1 c2) (by go_size) fun w1 hb1 hc1 hf1 z1_0 z1_1 _=> ?_))
  go_ret;exact ⟨by simp [jhG,f1],bi⟩
 ·go_wp2_with first|(go_at_call 65;(with_reducible show Calls _ _ #[.int .i64 t, .int .i64 c1, .int .i64 c2] _ _);(with_reducible refine mo2 w (jeo t c1 c2) (by go_size) fun w1 hb1 hc1 hf1 z1_0 z1_1 _=> ?_))|(go_at_call 65;(with_reducible refine mo2 w (jeo u c3 c4) (by go_size) fun w2 hb2 hc2 hf2 z2_0 z2_1 _=> ?_))
  go_ret;exact ⟨by simp [jhG,f1],bi⟩
end

structure Iv6 (w:World) (A:Option Addr) (n:Nat) (zs:List Int):Prop where
 len:zs.length=n
 at_:0 < n→∃b o,A=some ⟨b,o,none⟩∧b < w.heap.size∧∀j,j < n→w.cell? ⟨b,o+j,none⟩=some (.int .i64 (zs.getD j 0))
theorem Iv6.below {w w':World} {A:Option Addr} {n:Nat} {zs:List Int} (h:Iv6 w A n zs) (hb:Below w.heap.size w w'):Iv6 w' A n zs:=
 ⟨h.len,fun hn=>by
   obtain ⟨b,o,e,h1,h2⟩:=h.at_ hn
   exact ⟨b,o,e,Nat.lt_of_lt_of_le h1 hb.size,fun j hj=>by rw [hb.cell (p:=⟨b,o+j,none⟩) h1];exact h2 j hj⟩⟩
theorem jl9 {zs:List Int} {i:Nat} (h:i < zs.length):zs.drop i=zs.getD i 0::zs.drop (i+1):=by
 rw [List.drop_eq_getElem_cons h,List.getD_eq_getElem?_getD,List.getElem?_eq_getElem h];rfl
def Hrs (w:World) (b off:Nat) (hs:List Hr):Prop:=∀j,j < hs.length→w.cell? ⟨b,off+j*2,none⟩=some (.int .i64 (hs.getD j (0,0)).1)∧w.cell? ⟨b,off+j*2+1,none⟩=some (.int .i64 (hs.getD j (0,0)).2)
theorem Hrs.on {w w':World} {B b off:Nat} {hs:List Hr} (h:Hrs w b off hs) (hb:Below B w w') (hlt:b < B):Hrs w' b off hs:=fun j hj=>
 ⟨(hb.cell (p:=⟨b,off+j*2,none⟩) hlt).trans (h j hj).1,(hb.cell (p:=⟨b,off+j*2+1,none⟩) hlt).trans (h j hj).2⟩
structure Hv6 (w:World) (A:Option Addr) (n:Nat) (hs:List Hr):Prop where
 len:hs.length=n
 at_:0 < n→∃b o,A=some ⟨b,o,none⟩∧b < w.heap.size∧Hrs w b o hs
theorem Hv6.below {w w':World} {A:Option Addr} {n:Nat} {hs:List Hr} (h:Hv6 w A n hs) (hb:Below w.heap.size w w'):Hv6 w' A n hs:=
 ⟨h.len,fun hn=>by
   obtain ⟨b,o,e,h1,h2⟩:=h.at_ hn
   exact ⟨b,o,e,Nat.lt_of_lt_of_le h1 hb.size,h2.on hb h1⟩⟩
theorem jrP {hs:List Hr} {i:Nat} (h:i < hs.length):hs.drop i=hs.getD i (0,0)::hs.drop (i+1):=by
 rw [List.drop_eq_getElem_cons h,List.getD_eq_getElem?_getD,List.getElem?_eq_getElem h];rfl
def jkz:List Int→Int
 | []=>0
 | x::r=>if x=0 then jkz r else x
section
variable {w:World}
theorem jpn (b:Bool) (k:Int):Calls prog 21 #[.bool b, .int .i64 k] w fun e w'=>e= .returned (.int .i64 (if b then k else 0))∧Below w.heap.size w w':=by
 cases b
 all_goals go_enter func21,ntmps21
 all_goals go_wp2
 all_goals go_ret
 all_goals exact ⟨rfl,bi⟩
theorem jap {b:Bool} {k r:Int} (hr:(if b then k else 0)=r):Calls prog 21 #[.bool b, .int .i64 k] w fun e w'=>e= .returned (.int .i64 r)∧Below w.heap.size w w':=hr ▸ jpn b k
theorem jeu (n:Int):Calls prog 63 #[.int .i64 n] w fun e w'=>e= .returned (.bool (decide (-600≤n) && decide (n≤1000)))∧Below w.heap.size w w':=by
 go_enter func63,ntmps63;go_wp2_with (go_at_call 65;(with_reducible refine mo0 (jeo n (-600) 1000) fun w1 hb1 hc1 hf1 _=> ?_))
 go_ret;exact ⟨rfl,bi⟩
theorem jgA (n:Int):Calls prog 64 #[.int .i64 n] w fun e w'=>e= .returned (.bool (decide (0≤n) && decide (n≤100)))∧Below w.heap.size w w':=by
 go_enter func64,ntmps64;go_wp2_with (go_at_call 65;(with_reducible refine mo0 (jeo n 0 100) fun w1 hb1 hc1 hf1 _=> ?_))
 go_ret;exact ⟨rfl,bi⟩
variable {A:Option Addr} {n c:Nat} {zs:List Int}
theorem jbl {r:Int} (h:Iv6 w A n zs) (hn:n≤1000) (hr:jkz zs=r):Calls prog 20 #[.slice A n c] w fun e w'=>e= .returned (.int .i64 r)∧Below w.heap.size w w':=by
 have H:=qh h;have HN:=qh hn;have HR:=qh hr;clear h hn hr;go_enter func20,ntmps20;go_wp2
 go_loopw [7] (fun u wr=>∃(i:Nat),u= .int .i64 (i:Int)∧i≤n∧Below w.heap.size w wr∧jkz (zs.drop i)=r) (fun u _=>n - (intOf u).toNat)
 case atStart=>exact ⟨0,rfl,Nat.zero_le _,bi,HR.o⟩
 case round=>
  obtain ⟨i,rfl,hin,hb,hc⟩:=hrel;have _:=bm hb;have hnn:=HN.o;by_cases hi:i < n
  ·have p0:decide (i < n)=true:=by simpa using hi
   obtain ⟨b,o,rfl,hbl,hat⟩:=(H.o.below hb).at_ (by omega);have k0:=hat i hi;rw [jl9 (by rw [H.o.len];exact hi)] at hc;obtain ⟨x,hx⟩:∃x,zs.getD i 0=x:=⟨_,rfl⟩;rw [hx] at k0 hc;clear hat;by_cases hx0:x=0
   ·subst hx0
    have hc2:jkz (zs.drop (i+1))=r:=by
     rw [←hc];conv=>rhs;unfold jkz
     rw [if_pos rfl]
    clear hc;go_wp2
    go_roundw
    case rel=>exact ⟨i+1,by simp,by omega,bi,hc2⟩
    case measure=>simp [intOf];omega
   ·have hR:x=r:=by
     rw [←hc];unfold jkz;rw [if_neg hx0]
    subst hR;clear hc;go_wp2;go_ret;exact ⟨rfl,bi⟩
  ·have:i=n:=by omega
   subst this;have p0:decide (i < i)=false:=by simp
   rw [List.drop_eq_nil_of_le (by rw [H.o.len];exact Nat.le_refl _)] at hc;have hR:r=0:=hc.symm;subst hR;go_wp2;go_ret;exact ⟨rfl,bi⟩
end

theorem iv2 {W:World} {t:TypeId} {a b:Int}:Iv6 (W.alloc (.cells #[.int .i64 a, .int .i64 b] t)) (some ⟨W.heap.size,0,none⟩) 2 [a,b]:=
 ⟨rfl,fun _=>⟨_,0,rfl,by simp,fun j hj=>by
   have:j=0∨j=1:=by omega
   rcases this with rfl|rfl <;> simp⟩⟩
theorem iv3 {W:World} {t:TypeId} {a b c:Int}:Iv6 (W.alloc (.cells #[.int .i64 a, .int .i64 b, .int .i64 c] t)) (some ⟨W.heap.size,0,none⟩) 3 [a,b,c]:=
 ⟨rfl,fun _=>⟨_,0,rfl,by simp,fun j hj=>by
   have:j=0∨j=1∨j=2:=by omega
   rcases this with rfl|rfl|rfl <;> simp⟩⟩
def jqq (n:Int):Bool:=decide (-600≤n) && decide (n≤1000)
def jqd (n:Int):Bool:=decide (0≤n) && decide (n≤100)
section
variable {w:World}
end
def jry (c:Clim):Bool:=jqq c.c && jqq c.m && jqd c.d && jqd c.p
def jlL (c:Clim):Bool:=decide (c.m < c.c) || decide (c.p < c.d)
def jlz (c:Clim):Int:=if jry c then (if jlL c then 11 else 0) else 3
section
variable {w:World}
theorem jlx (c:Clim):Calls prog 23 #[clv c] w fun e w'=>e= .returned (.int .i64 (jlz c))∧Below w.heap.size w w':=by
 obtain ⟨c1,c2,c3,c4⟩:=c;obtain ⟨r,hr⟩:∃r,jlz ⟨c1,c2,c3,c4⟩=r:=⟨_,rfl⟩;rw [hr];have HR:=qh hr;clear hr;have F1:=fun w=>jeu (w:=w) c1
 have F2:=fun w=>jeu (w:=w) c2
 have F3:=fun w=>jgA (w:=w) c3
 have F4:=fun w=>jgA (w:=w) c4
 rw [show (decide (-600≤c1) && decide (c1≤1000))=jqq c1 from rfl] at F1;rw [show (decide (-600≤c2) && decide (c2≤1000))=jqq c2 from rfl] at F2;rw [show (decide (0≤c3) && decide (c3≤100))=jqd c3 from rfl] at F3;rw [show (decide (0≤c4) && decide (c4≤100))=jqd c4 from rfl] at F4;obtain ⟨b,hb⟩:∃b,jry ⟨c1,c2,c3,c4⟩=b:=⟨_,rfl⟩;have HB:=qh hb;unfold jry at hb;dsimp only at hb;obtain ⟨b1,h1⟩:∃b,jqq c1=b:=⟨_,rfl⟩;obtain ⟨b2,h2⟩:∃b,jqq c2=b:=⟨_,rfl⟩;obtain ⟨b3,h3⟩:∃b,jqd c3=b:=⟨_,rfl⟩;obtain ⟨b4,h4⟩:∃b,jqd c4=b:=⟨_,rfl⟩;rw [h1] at F1 hb;rw [h2] at F2 hb;rw [h3] at F3 hb;rw [h4] at F4 hb;go_enter func23,ntmps23;go_upto_region 1 with (fail)
 go_cut [3] (fun u wx=>u= .bool b∧Below w.heap.size w wx∧w.heap.size < wx.heap.size∧wx.cell? ⟨w.heap.size,0,none⟩=some (.int .i64 c1)∧wx.cell? ⟨w.heap.size,1,none⟩=some (.int .i64 c2)∧wx.cell? ⟨w.heap.size,2,none⟩=some (.int .i64 c3)∧wx.cell? ⟨w.heap.size,3,none⟩=some (.int .i64 c4))
 case first=>
  have hq:(b1=false∧b=false)∨(b1=true∧b2=false∧b=false)∨(b1=true∧b2=true∧b3=false∧b=false)∨(b1=true∧b2=true∧b3=true∧b4=b):=by
   rw [←hb];cases b1 <;> cases b2 <;> cases b3 <;> cases b4 <;> decide
  clear hb h1 h2 h3 h4;rcases hq with ⟨rfl,rfl⟩|⟨rfl,rfl,rfl⟩|⟨rfl,rfl,rfl,rfl⟩|⟨rfl,rfl,rfl,rfl⟩
  all_goals go_wp2_with (first|(go_at_call 63;(with_reducible show Calls _ _ #[.int .i64 c1] _ _);(with_reducible refine mo1 w (F1 _) (by go_size) fun w1 hb1 hc1 hf1 z1_0 _=> ?_))|(go_at_call 63;(with_reducible refine mo1 w (F2 _) (by go_size) fun w2 hb2 hc2 hf2 z2_0 _=> ?_))|(go_at_call 64;(with_reducible show Calls _ _ #[.int .i64 c3] _ _);(with_reducible refine mo1 w (F3 _) (by go_size) fun w3 hb3 hc3 hf3 z3_0 _=> ?_))|(go_at_call 64;(with_reducible refine mo1 w (F4 _) (by go_size) fun w4 hb4 hc4 hf4 z4_0 _=> ?_)))
  all_goals go_meet
  all_goals refine ⟨rfl,bi, ?_, ?_, ?_, ?_, ?_⟩
  all_goals first|assumption|(simp [go_sem, *])
 case rest=>
  obtain ⟨rfl,hb0,hz0,hc0,hc1,hc2,hc3⟩:=hcut;have _:=bm hb0
  have HO:Hd (jkz [if !b then 3 else 0,if jlL ⟨c1,c2,c3,c4⟩ then 11 else 0]=r):=by
   show _=_
   rw [←HR.o];unfold jlz;rw [HB.o];cases b <;> cases jlL ⟨c1,c2,c3,c4⟩ <;> rfl
  obtain ⟨o,ho⟩:∃o,jlL ⟨c1,c2,c3,c4⟩=o:=⟨_,rfl⟩;rw [ho] at HO;unfold jlL at ho;dsimp only at ho;clear HR HB;obtain ⟨k1,hk1⟩:∃k,(if !b then (3:Int) else 0)=k:=⟨_,rfl⟩;obtain ⟨k2,hk2⟩:∃k,(if o then (11:Int) else 0)=k:=⟨_,rfl⟩;rw [hk1,hk2] at HO;have HK1:=qh hk1;have HK2:=qh hk2;clear hk1 hk2;obtain ⟨g,hg⟩:∃g,decide (c2 < c1)=g:=⟨_,rfl⟩;rw [hg] at ho;go_upto_region 2 with (fail)
  cases g
  ·rw [Bool.false_or] at ho;refine ja1 (fun w'=>Below wc.heap.size wc w') [] (by kernel_rfl) ?_;refine tl [(0,[1], .bool b),(1,[2], .bool !b),(3,[4], .pointer (some ⟨w.heap.size,0,none⟩)),(4,[7], .int .i64 c1),(5,[6], .pointer (some ⟨w.heap.size,1,none⟩)),(6,[7], .int .i64 c2),(7,[8], .bool false)] [_,_,_,_,_,_,_] rfl (by kernel_rfl) pk5 (by intros;simp only [tyq,ppq];go_simp) bq0 ?_;simp only [tlq,ppq];refine rd1 2 (by kernel_rfl) rfl (fun K hK=> ?_);go_simp;go_wp2_with (go_at_call 21;(with_reducible refine mo1 w (jap HK1.o) (by go_size) fun w5 hb5 hc5 hf5 z5_0 _=> ?_))
   have sS5:=qh (bst bq0 hb5);refine hK.out _ _ (fun _=>sS5.o) ?_;clear hK K;refine tl [(8,[15], .bool false),(9,[10], .pointer (some ⟨w.heap.size,2,none⟩)),(10,[13], .int .i64 c3),(11,[12], .pointer (some ⟨w.heap.size,3,none⟩)),(12,[13], .int .i64 c4),(13,[14], .bool o),(14,[15], .bool o)] [_,_,_,_,_,_,_] rfl (by kernel_rfl) pk5 (by intros;simp only [tyq,ppq];go_simp) sS5.o ?_;simp only [tlq,ppq];refine rd1 15 (by kernel_rfl) rfl (fun K hK=> ?_);go_simp;go_wp2_with (go_at_call 21;(with_reducible refine mo1 w (jap HK2.o) (by go_size) fun w6 hb6 hc6 hf6 z6_0 _=> ?_))
   have sS6:=qh (bst sS5.o hb6);refine hK.out _ _ (fun _=>sS6.o) ?_;clear hK K;refine rd1 16 (by kernel_rfl) rfl (fun K hK=> ?_);go_simp;refine hK.out _ _ (fun _=>bi) ?_;clear hK K
   skip
   refine rd1 17 (by kernel_rfl) rfl (fun K hK=> ?_);go_simp;go_wp2_with (go_at_call 20;(with_reducible refine mo1 w (jbl iv2 (by omega) HO.o) (by go_size) fun w7 hb7 hc7 hf7 z7_0 _=> ?_))
   refine hK.out _ _ (fun _=>bi) ?_;clear hK K;refine rd1 18 (by kernel_rfl) rfl (fun K hK=> ?_);go_simp;refine hK.out _ _ (fun _=>bi) ?_;clear hK K;refine ja2 (by kernel_rfl) ?_ _;go_wp2;go_ret;exact ⟨rfl,bi⟩
  ·rw [Bool.true_or] at ho;subst ho;refine ja1 (fun w'=>Below wc.heap.size wc w') [] (by kernel_rfl) ?_;refine tl [(0,[1], .bool b),(1,[2], .bool !b),(3,[4], .pointer (some ⟨w.heap.size,0,none⟩)),(4,[7], .int .i64 c1),(5,[6], .pointer (some ⟨w.heap.size,1,none⟩)),(6,[7], .int .i64 c2),(7,[8], .bool true)] [_,_,_,_,_,_,_] rfl (by kernel_rfl) pk5 (by intros;simp only [tyq,ppq];go_simp) bq0 ?_;simp only [tlq,ppq];refine rd1 2 (by kernel_rfl) rfl (fun K hK=> ?_);go_simp;go_wp2_with (go_at_call 21;(with_reducible refine mo1 w (jap HK1.o) (by go_size) fun w5 hb5 hc5 hf5 z5_0 _=> ?_))
   have sS5:=qh (bst bq0 hb5);refine hK.out _ _ (fun _=>sS5.o) ?_;clear hK K;refine tb 8 (.bool true) [15] rfl (by kernel_rfl) pk rfl (by intros;go_simp) sS5.o ?_;simp only [ppq];refine ts 9 [10] rfl (by kernel_rfl) pk (by rfl) sS5.o ?_;simp only [ppq];refine ts 10 [13] rfl (by kernel_rfl) pk (by rfl) sS5.o ?_;simp only [ppq];refine ts 11 [12] rfl (by kernel_rfl) pk (by rfl) sS5.o ?_;simp only [ppq];refine ts 12 [13] rfl (by kernel_rfl) pk (by rfl) sS5.o ?_;simp only [ppq];refine ts 13 [14] rfl (by kernel_rfl) pk (by rfl) sS5.o ?_;refine tb 14 (.bool true) [15] rfl (by kernel_rfl) pk rfl (by intros;go_simp) sS5.o ?_;simp only [ppq];refine rd1 15 (by kernel_rfl) rfl (fun K hK=> ?_);go_simp;go_wp2_with (go_at_call 21;(with_reducible refine mo1 w (jap (r:=k2) (by simpa using HK2.o)) (by go_size) fun w6 hb6 hc6 hf6 z6_0 _=> ?_))
   have sS6:=qh (bst sS5.o hb6);refine hK.out _ _ (fun _=>sS6.o) ?_;clear hK K;refine rd1 16 (by kernel_rfl) rfl (fun K hK=> ?_);go_simp;refine hK.out _ _ (fun _=>bi) ?_;clear hK K
   skip
   refine rd1 17 (by kernel_rfl) rfl (fun K hK=> ?_);go_simp;go_wp2_with (go_at_call 20;(with_reducible refine mo1 w (jbl iv2 (by omega) HO.o) (by go_size) fun w7 hb7 hc7 hf7 z7_0 _=> ?_))
   refine hK.out _ _ (fun _=>bi) ?_;clear hK K;refine rd1 18 (by kernel_rfl) rfl (fun K hK=> ?_);go_simp;refine hK.out _ _ (fun _=>bi) ?_;clear hK K;refine ja2 (by kernel_rfl) ?_ _;go_wp2;go_ret;exact ⟨rfl,bi⟩
end

section
variable {w:World}
variable {A:Option Addr} {n c:Nat} {zs:List Int}
end

section
variable {w:World} {A:Option Addr} {n c:Nat} {rs:List (List Int)}
end

def inB (n a b:Int):Bool:=decide (a≤n) && decide (n≤b)
section
variable {w:World}
theorem jwv {n a b:Int} {r:Bool} (h:inB n a b=r):Calls prog 45 #[.int .i64 n, .int .i64 a, .int .i64 b] w fun e w'=>e= .returned (.bool r)∧Below w.heap.size w w':=by
 subst h;go_enter func45,ntmps45;by_cases h1:a≤n <;> by_cases h2:n≤b
 all_goals go_wp2
 all_goals go_ret
 all_goals exact ⟨by simp [inB,h1,h2],bi⟩
end
end Go.Proofs.YtfagcpcikjlboaaGreatDoor
