/- Parts. -/
import Derived.Test.YtfagcpcikjlboaaGreatDoorLtG
set_option linter.all false
set_option maxRecDepth 100000
set_option maxHeartbeats 8000000
namespace Go.Proofs.YtfagcpcikjlboaaGreatDoor
open Go Go.RowKit Go.Proofs.Tryz

def jAD (h:Hr) (c:Clim):Int:=jkz [if !jl3 h then 3 else 0,jlz c]
section
variable {w:World}
theorem jwN {h:Hr} {c:Clim} {r:Bool} (hr:jhG h c=r):Calls prog 24 #[hrv h,clv c] w fun e w'=>e= .returned (.bool r)∧Below w.heap.size w w':=hr ▸ jjB h c
theorem jAs {t u:Int} {r:Bool} (hr:jl3 (t,u)=r):Calls prog 22 #[.agg #[.int .i64 t, .int .i64 u]] w fun e w'=>e= .returned (.bool r)∧Below w.heap.size w w':=hr ▸ jmD t u
theorem jzL {c:Clim} {r:Int} (hr:jlz c=r):Calls prog 23 #[clv c] w fun e w'=>e= .returned (.int .i64 r)∧Below w.heap.size w w':=hr ▸ jlx c
theorem jB1 {h:Hr} {c:Clim} {k:Int} {s:Bool} (hk:jAD h c=k) (hs:(decide (k=0) && jhG h c)=s):Calls prog 6 #[hrv h,clv c] w fun e w'=>e= .returned (.tuple #[.bool s, .int .i64 k])∧Below w.heap.size w w':=by
 obtain ⟨t,u⟩:=h;obtain ⟨b1,h1⟩:∃b,jl3 (t,u)=b:=⟨_,rfl⟩;obtain ⟨e1,h2⟩:∃e,(if !b1 then (3:Int) else 0)=e:=⟨_,rfl⟩;obtain ⟨e2,h3⟩:∃e,jlz c=e:=⟨_,rfl⟩;have h4:jkz [e1,e2]=k:=by rw [←hk];unfold jAD;rw [h1,h2,h3]
 obtain ⟨sb,h5⟩:∃s,jhG (t,u) c=s:=⟨_,rfl⟩;rw [h5] at hs;have H1:=qh h1;have H2:=qh h2;have H3:=qh h3;have HK:=qh h4;have H5:=qh h5;have HS:=qh hs;clear h1 h2 h3 h4 h5 hk hs;go_enter func6,ntmps6;go_upto_region 1 with (fail)
 obtain ⟨V,hV⟩:∃V,(w.alloc (.cells #[.int .i64 t, .int .i64 u] 31)).alloc (.cells #[.int .i64 c.c, .int .i64 c.m, .int .i64 c.d, .int .i64 c.p] 27)=V:=⟨_,rfl⟩;have bV:Below w.heap.size w V:=by rw [←hV];exact bi
 have v1:V.cell? ⟨w.heap.size,0,none⟩=some (.int .i64 t):=by rw [←hV];simp [go_sem]
 have v6:V.cell? ⟨w.heap.size,1,none⟩=some (.int .i64 u):=by rw [←hV];simp [go_sem]
 have v2:V.cell? ⟨w.heap.size+1,0,none⟩=some (.int .i64 c.c):=by rw [←hV];simp [go_sem]
 have v3:V.cell? ⟨w.heap.size+1,1,none⟩=some (.int .i64 c.m):=by rw [←hV];simp [go_sem]
 have v4:V.cell? ⟨w.heap.size+1,2,none⟩=some (.int .i64 c.d):=by rw [←hV];simp [go_sem]
 have v5:V.cell? ⟨w.heap.size+1,3,none⟩=some (.int .i64 c.p):=by rw [←hV];simp [go_sem]
 have z0:w.heap.size < V.heap.size:=by rw [←hV];simp;omega
 have z1:w.heap.size+1 < V.heap.size:=by rw [←hV];simp
 rw [hV];clear hV;refine ja1 (fun w'=>Below V.heap.size V w') [] (by kernel_rfl) ?_;refine tl [(0,[1],hrv (t,u)),(4,[5],clv c)] [_,_] rfl (by kernel_rfl) pk5 (by intros;simp only [tyq,ppq];go_simp) bq0 ?_;simp only [tlq,ppq];refine rd1 1 (by kernel_rfl) rfl (fun K hK=> ?_);go_simp;go_wp2_with (go_at_call 22;(with_reducible refine mo0 (jAs H1.o) fun w1 hb1 hc1 hf1 _=> ?_))
 have sS1:=qh (bst bq0 hb1);refine hK.out _ _ (fun _=>sS1.o) ?_;clear hK K;refine rd1 2 (by kernel_rfl) rfl (fun K hK=> ?_);go_simp;refine hK.out _ _ (fun _=>bi) ?_;clear hK K;refine rd1 3 (by kernel_rfl) rfl (fun K hK=> ?_);go_simp;go_wp2_with (go_at_call 21;(with_reducible refine mo0 (jap H2.o) fun w2 hb2 hc2 hf2 _=> ?_))
 have sS2:=qh (bst sS1.o hb2);refine hK.out _ _ (fun _=>sS2.o) ?_;clear hK K;refine rd1 5 (by kernel_rfl) rfl (fun K hK=> ?_);go_simp;go_wp2_with (go_at_call 23;(with_reducible refine mo0 (jzL H3.o) fun w3 hb3 hc3 hf3 _=> ?_))
 have sS3:=qh (bst sS2.o hb3);refine hK.out _ _ (fun _=>sS3.o) ?_;clear hK K;refine rd1 6 (by kernel_rfl) rfl (fun K hK=> ?_);go_simp;refine hK.out _ _ (fun _=>bi) ?_;clear hK K
 skip
 refine rd1 7 (by kernel_rfl) rfl (fun K hK=> ?_);go_simp;go_wp2_with (go_at_call 20;(with_reducible refine mo0 (jbl (r:=k) iv2 (by omega) HK.o) fun w4 hb4 hc4 hf4 _=> ?_))
 refine hK.out _ _ (fun _=>bi) ?_;clear hK K;refine rd1 8 (by kernel_rfl) rfl (fun K hK=> ?_);go_simp;refine hK.out _ _ (fun _=>bi) ?_;clear hK K;refine ja2 (by kernel_rfl) ?_ _;have b4:Below V.heap.size V w4:=bi;have u1:=ja9 b4 v1;have u6:=ja9 b4 v6;have u2:=ja9 b4 v2;have u3:=ja9 b4 v3;have u4:=ja9 b4 v4;have u5:=ja9 b4 v5;have y0:w.heap.size < w4.heap.size:=Nat.lt_of_lt_of_le z0 b4.size;have y1:w.heap.size+1 < w4.heap.size:=Nat.lt_of_lt_of_le z1 b4.size;replace bV:=bst bV b4;clear v1 v2 v3 v4 v5 v6 z0 z1 hc1 hc2 hc3 hc4 hf1 hf2 hf3 hf4;by_cases hk:k=0
 ·subst hk;obtain rfl:sb=s:=by simpa using HS.o
  go_wp2_with (go_at_call 24;(with_reducible refine mo1 w (jwN (h:=(t,u)) (c:=c) H5.o) (by go_size) fun w5 hb5 hc5 hf5 z5_0 _=> ?_))
  go_ret2;exact ⟨rfl,bst bV bi⟩
 ·have q1:(k != 0)=true:=by rw [bne_iff_ne];exact hk
  obtain rfl:false=s:=by have:=HS.o;rw [←this];simp [hk]
  go_wp2;go_ret2;exact ⟨rfl,bV⟩
end
section
variable {w:World} {A:Option Addr} {n cap:Nat} {hs:List Hr} {c:Clim}
end

structure DBox (w:World) (g:Nat) (q:PT):Prop where
 heap:∃t,w.heap[g]? =some (.cells #[.int .i64 q.1.1.1, .slice q.1.1.2.1 q.1.1.2.2.1 q.1.1.2.2.2, .int .i64 q.1.2.1, .slice q.1.2.2.1 q.1.2.2.2.1 q.1.2.2.2.2, .int .i64 q.2.1.1, .slice q.2.1.2.1 q.2.1.2.2.1 q.2.1.2.2.2, .int .i64 q.2.2.1, .slice q.2.2.2.1 q.2.2.2.2.1 q.2.2.2.2.2] t (0,0))
theorem DBox.lt {w:World} {g:Nat} {q:PT} (h:DBox w g q):g < w.heap.size:=by
 obtain ⟨t,h⟩:=h.heap;exact (Array.getElem?_eq_some_iff.1 h).1
theorem DBox.kept {w w':World} {g:Nat} {q:PT} (h:DBox w g q) (e:w'.heap[g]? =w.heap[g]?):DBox w' g q:=by
 obtain ⟨t,h⟩:=h.heap;exact ⟨t,e.trans h⟩
theorem DBox.below {w w':World} {g:Nat} {q:PT} (h:DBox w g q) (hb:Below w.heap.size w w'):DBox w' g q:=h.kept (hb.block g h.lt)
theorem DBox.grown {w w':World} {g:Nat} {q:PT} {row:Option Nat} (h:DBox w g q) (hg:w.grownBy w' row) (hne:some g≠row):DBox w' g q:=h.kept (hg.block g h.lt hne)
theorem DBox.nou {w:World} {g:Nat} {q:PT} (h:DBox w g q):NoU w g:=by
 obtain ⟨t,h⟩:=h.heap;exact ⟨_,t,_,h,fun u hu z=>jy1 (q:=q) u (by simpa [ptc,fts] using hu) z⟩
theorem DBox.sc {w:World} {g:Nat} {q:PT} (h:DBox w g q):SC w g q:=by
 obtain ⟨t,h⟩:=h.heap;refine ⟨?_, ?_, ?_, ?_, ?_, ?_, ?_, ?_,fun o=> ?_⟩
 all_goals (first
  | (rw [cell_of_row w g _ _ t _ h];rfl)
  | (simp [World.frozen?,h]))
theorem jwA {w:World} {g:Nat} {cur:Array Value} {t:TypeId} {f:Nat×Nat} (k:Nat) (v:Value) (h:w.heap[g]? =some (.cells cur t f)):(w.setCell ⟨g,k,none⟩ v).heap[g]? =some (.cells (cur.setIfInBounds k v) t f):=by
 simp [World.setCell,Array.getElem?_modify,h]
theorem jwr {w:World} {g k:Nat} {v:Value}:w.grownBy (w.setCell ⟨g,k,none⟩ v) (some g):=
 ⟨rfl,rfl,rfl,by simp,fun j _ hj=>Below.heap_setCell _ _ _ _ (fun e=>hj (by rw [e]))⟩
theorem DBox.made (w:World) (ty:TypeId) (s t u v:Int) (A B C D:Option Addr) (n c m d i j o l:Nat):DBox (w.alloc (.cells #[.int .i64 s, .slice A n c, .int .i64 t, .slice B m d, .int .i64 u, .slice C i j, .int .i64 v, .slice D o l] ty)) w.heap.size (((s,A,n,c),(t,B,m,d)),((u,C,i,j),(v,D,o,l))):=
 ⟨ty,heap_alloc_new w _⟩
theorem DBox.setR {w:World} {g:Nat} {q:PT} {s t u v:Int} {A B C D:Option Addr} {n c m d i j o l:Nat} (h:DBox w g q):DBox ((((((((w.setCell ⟨g,0,none⟩ (.int .i64 s)).setCell ⟨g,1,none⟩ (.slice A n c)).setCell ⟨g,2,none⟩ (.int .i64 t)).setCell ⟨g,3,none⟩ (.slice B m d)).setCell ⟨g,4,none⟩ (.int .i64 u)).setCell ⟨g,5,none⟩ (.slice C i j)).setCell ⟨g,6,none⟩ (.int .i64 v)).setCell ⟨g,7,none⟩ (.slice D o l)) g (((s,A,n,c),(t,B,m,d)),((u,C,i,j),(v,D,o,l))):=by
 obtain ⟨ty,h⟩:=h.heap;refine ⟨ty, ?_⟩;have h1:=jwA 7 (.slice D o l) (jwA 6 (.int .i64 v) (jwA 5 (.slice C i j) (jwA 4 (.int .i64 u) (jwA 3 (.slice B m d) (jwA 2 (.int .i64 t) (jwA 1 (.slice A n c) (jwA 0 (.int .i64 s) h)))))));simp only [List.setIfInBounds_toArray,List.set_cons_zero,List.set_cons_succ] at h1;exact h1
theorem jwD {w:World} {g:Nat} {s t u v:Int} {A B C D:Option Addr} {n c m d i j o l:Nat}:w.grownBy ((((((((w.setCell ⟨g,0,none⟩ (.int .i64 s)).setCell ⟨g,1,none⟩ (.slice A n c)).setCell ⟨g,2,none⟩ (.int .i64 t)).setCell ⟨g,3,none⟩ (.slice B m d)).setCell ⟨g,4,none⟩ (.int .i64 u)).setCell ⟨g,5,none⟩ (.slice C i j)).setCell ⟨g,6,none⟩ (.int .i64 v)).setCell ⟨g,7,none⟩ (.slice D o l)) (some g):=by
 exact (((((((jwr.trans jwr).trans jwr).trans jwr).trans jwr).trans jwr).trans jwr).trans jwr)
theorem jyk {w W:World} {g:Nat} {s t u v:Int} {A B C D:Option Addr} {n c m d i j o l:Nat} (h:Below W.heap.size W w) (hg:W.heap.size≤g):Below W.heap.size W ((((((((w.setCell ⟨g,0,none⟩ (.int .i64 s)).setCell ⟨g,1,none⟩ (.slice A n c)).setCell ⟨g,2,none⟩ (.int .i64 t)).setCell ⟨g,3,none⟩ (.slice B m d)).setCell ⟨g,4,none⟩ (.int .i64 u)).setCell ⟨g,5,none⟩ (.slice C i j)).setCell ⟨g,6,none⟩ (.int .i64 v)).setCell ⟨g,7,none⟩ (.slice D o l)):=bC (bC (bC (bC (bC (bC (bC (bC h hg) hg) hg) hg) hg) hg) hg) hg
theorem jxM {w W w':World} {o:Obj} {row:Option Nat} (h:Below W.heap.size W w) (hg:(w.alloc o).grownBy w' row) (hr:∀k,row=some k→W.heap.size≤k):Below W.heap.size W w':=
 (bA h).trans (jab hg (Nat.le_trans h.size (by simp)) hr)
theorem jwy.grown {w w':World} {q:PT} {x:Rat×Rat} {row:Option Nat} (h:jwy w q x) (hg:w.grownBy w' row) (hr:∀g,row=some g→NoU w g):jwy w' q x:=
 ⟨⟨h.1.1.grown hg hr,h.1.2.grown hg hr⟩,⟨h.2.1.grown hg hr,h.2.2.grown hg hr⟩⟩
theorem jwP {ops:Array Oper} {rest:List Oper} {o:Oper} {a:Act} {Q:Exit→Act→World→Prop} {w:World} {base n b c:Nat} {v:Value} {vs:List PT} {qs:List (Rat×Rat)} {q:PT} {x:Rat×Rat} (hg:o.guard=none) (s y:Operand)
  (ho:o.op= .call { callee:= .builtin .append,args:= #[s,y],argTypes:= #[75,75] }) (ht:o.type=75) (hs:a.eval s=v) (hy:a.eval y= .slice (some ⟨b,0,none⟩) 1 c)
  (h:OwnD w base v n vs qs) (hn:n≤100000) (hb:base≤w.heap.size) (hq:jwy w q x)
  (h0:∀k u,(ptc q)[k]? =some u→w.cell? ⟨b,k,none⟩=some u)
  (hK:∀v' w',OwnD w' base v' (n+1) (vs++[q]) (qs++[x])→w.grownBy w' v.ownBlock→(v'.ownBlock=v.ownBlock∨v'.ownBlock=some w.heap.size)→wpList prog ops Q rest (a.put o.dst v') w'):wpList prog ops Q (o::rest) a w:=by
 obtain ⟨v',w',hr,k1,k2,k3⟩:=jyt h hn hb hq h0;refine wpList_plain hg fun K' hK'=> ?_
 exact jdG s y ho hs hy (by rw [ht];exact hr) (hK' _ _ (hK v' w' k1 k2 k3))
def jwE (hs:List Hr) (c:Clim):Nat→Nat
 | 0=>0
 | i+1=>jwE hs c i+(if jhG (hs.getD i (0,0)) c then 1 else 0)
theorem jwS (hs:List Hr) (c:Clim):∀i,jwE hs c i≤i
 | 0=>Nat.le_refl _
 | i+1=>by
   have:=jwS hs c i;show jwE hs c i+(if jhG (hs.getD i (0,0)) c then 1 else 0)≤i+1
   split <;> omega
def frq (x z:Rat) (k:Nat):Rat:=jws ((k:Rat)*x) z
theorem jxz {x z:Rat} (hz:0 < z):frq x z 0=0:=by
 unfold frq jws;rw [show ((0:Nat):Rat)=0 from rfl,Rat.zero_mul,if_neg (by grind)]
theorem jxy {x z:Rat} {k:Nat} (hx:0≤x):jws (frq x z k+x) z=frq x z (k+1):=by
 have h:((k+1:Nat):Rat)*x=(k:Rat)*x+x:=by
  rw [show ((k+1:Nat):Rat)=(k:Rat)+1 by push_cast;rfl];grind
 unfold frq;rw [h];unfold jws;split <;> split <;> grind
theorem jwH {k:Nat} (h:k≤1000):Sz 1 ((k:Nat):Rat):=by
 have e:((k:Nat):Rat)=(((k:Nat):Int):Rat):=rfl;rw [e];exact jej ⟨by omega,by omega⟩
theorem jxC {x z:Rat} {k p:Nat} (h:k≤1000) (hx:Sz p x) (hz:Sz p z):Sz (p+1) (frq x z k):=by
 unfold frq jws;split
 ·exact hz.mono (by omega)
 ·exact ((jwH h).mul hx).mono (by omega)
def frP (hs:List Hr) (c:Clim) (x y z:Rat) (i:Nat):Rat×Rat:=(frq x z (jwE hs c (i+1)),frq y z (jwE hs c (i+1)))
def frL (hs:List Hr) (c:Clim) (x y z:Rat) (n:Nat):List (Rat×Rat):=(List.range n).map (frP hs c x y z)
theorem jxG (hs:List Hr) (c:Clim) (x y z:Rat) (i:Nat):frL hs c x y z (i+1)=frL hs c x y z i++[frP hs c x y z i]:=by
 unfold frL;rw [List.range_succ,List.map_append];rfl
section
variable {w:World} {A:Option Addr} {n cap:Nat} {hs:List Hr} {c:Clim} {x y z:Rat} {s1 s2 s3 t1 t2 t3:Int} {A1 A2 A3 B1 B2 B3:Option Addr} {n1 n2 n3 c1 c2 c3 m1 m2 m3 d1 d2 d3:Nat}
set_option maxHeartbeats 32000000 in
theorem jxh (h:Hv6 w A n hs) (hn:n≤1000) (h1:RepF w s1 A1 n1 c1 t1 B1 m1 d1 x) (h2:RepF w s2 A2 n2 c2 t2 B2 m2 d2 y) (h3:RepF w s3 A3 n3 c3 t3 B3 m3 d3 z) (z1:Sz 600 x) (z2:Sz 600 y) (z3:Sz 600 z) (hx:0≤x) (hy:0≤y) (hz:0 < z):
  Calls prog 26 #[.slice A n cap,clv c, .agg #[.int .i64 s1, .slice A1 n1 c1, .int .i64 t1, .slice B1 m1 d1, .int .i64 s2, .slice A2 n2 c2, .int .i64 t2, .slice B2 m2 d2],fv s3 A3 n3 c3 t3 B3 m3 d3] w fun e w'=>∃v vs,e= .returned v∧OwnD w' w.heap.size v n vs (frL hs c x y z n)∧Below w.heap.size w w':=by
 obtain ⟨k1,k2,k3,k4⟩:=c;have H:=qh h;have H1:=qh h1;have H2:=qh h2;have H3:=qh h3;have HZ:=qh (ai (z1.mono (m':=601) (by omega)) (ai (z2.mono (m':=601) (by omega)) (z3.mono (m':=1202) (by omega))));have HQ:=qh (ai hx (ai hy hz));have HFS:=qh (fun (k:Nat) (hk:k≤1000)=>ai (jxC (x:=x) hk z1 z3) (jxC (x:=y) hk z2 z3));have HN:=qh hn;have HF0:=qh (show ((0:Int):Rat)=0 from rfl);have HR0:=qh (show R64 0 by constructor <;> decide);clear h h1 h2 h3 z1 z2 z3 hx hy hz hn;go_enter func26,ntmps26;go_upto_region 1 with (fail)
 obtain ⟨W,hW⟩:∃W,(((w.alloc (.cells #[.int .i64 k1, .int .i64 k2, .int .i64 k3, .int .i64 k4] 27)).alloc (.cells #[.int .i64 s1, .slice A1 n1 c1, .int .i64 t1, .slice B1 m1 d1, .int .i64 s2, .slice A2 n2 c2, .int .i64 t2, .slice B2 m2 d2] 72)).alloc (.cells #[.int .i64 s3, .slice A3 n3 c3, .int .i64 t3, .slice B3 m3 d3] 70))=W:=⟨_,rfl⟩;have bW:Below w.heap.size w W:=by rw [←hW];exact bi
 have p0:W.cell? ⟨w.heap.size,0,none⟩=some (.int .i64 k1):=by rw [←hW];simp [go_sem]
 have p1:W.cell? ⟨w.heap.size,1,none⟩=some (.int .i64 k2):=by rw [←hW];simp [go_sem]
 have p2:W.cell? ⟨w.heap.size,2,none⟩=some (.int .i64 k3):=by rw [←hW];simp [go_sem]
 have p3:W.cell? ⟨w.heap.size,3,none⟩=some (.int .i64 k4):=by rw [←hW];simp [go_sem]
 have q0:W.cell? ⟨w.heap.size+1,0,none⟩=some (.int .i64 s1):=by rw [←hW];simp [go_sem]
 have q1:W.cell? ⟨w.heap.size+1,1,none⟩=some (.slice A1 n1 c1):=by rw [←hW];simp [go_sem]
 have q2:W.cell? ⟨w.heap.size+1,2,none⟩=some (.int .i64 t1):=by rw [←hW];simp [go_sem]
 have q3:W.cell? ⟨w.heap.size+1,3,none⟩=some (.slice B1 m1 d1):=by rw [←hW];simp [go_sem]
 have q4:W.cell? ⟨w.heap.size+1,4,none⟩=some (.int .i64 s2):=by rw [←hW];simp [go_sem]
 have q5:W.cell? ⟨w.heap.size+1,5,none⟩=some (.slice A2 n2 c2):=by rw [←hW];simp [go_sem]
 have q6:W.cell? ⟨w.heap.size+1,6,none⟩=some (.int .i64 t2):=by rw [←hW];simp [go_sem]
 have q7:W.cell? ⟨w.heap.size+1,7,none⟩=some (.slice B2 m2 d2):=by rw [←hW];simp [go_sem]
 have r0:W.cell? ⟨w.heap.size+2,0,none⟩=some (.int .i64 s3):=by rw [←hW];simp [go_sem]
 have r1:W.cell? ⟨w.heap.size+2,1,none⟩=some (.slice A3 n3 c3):=by rw [←hW];simp [go_sem]
 have r2:W.cell? ⟨w.heap.size+2,2,none⟩=some (.int .i64 t3):=by rw [←hW];simp [go_sem]
 have r3:W.cell? ⟨w.heap.size+2,3,none⟩=some (.slice B3 m3 d3):=by rw [←hW];simp [go_sem]
 simp only [show w.heap.size+1+1=w.heap.size+2 from rfl];rw [hW];obtain ⟨g,hg⟩:∃b,w.heap.size=b:=⟨_,rfl⟩;rw [hg] at p0 p1 p2 p3 q0 q1 q2 q3 q4 q5 q6 q7 r0 r1 r2 r3 ⊢;have HB:=qh bW;have HG:=qh hg;have zW0:g < W.heap.size:=World.block_lt_of_cell? W _ p0;have zW1:g+1 < W.heap.size:=World.block_lt_of_cell? W _ q0;have zW2:g+2 < W.heap.size:=World.block_lt_of_cell? W _ r0;clear hW bW hg;go_upto_region 2 with (first|(have _:=hr11;(go_at_call 67;(with_reducible refine mf0 (jes HF0.o HR0.o) fun w12 s12 A12 n12 c12 t12 B12 m12 d12 hr12 hq12 hb12 hc12 hf12 _=> ?_)))|(go_at_call 67;(with_reducible refine mf0 (jes HF0.o HR0.o) fun w11 s11 A11 n11 c11 t11 B11 m11 d11 hr11 hq11 hb11 hc11 hf11 _=> ?_)))
 have hD0:DBox (w12.alloc (.cells #[.int .i64 s11, .slice A11 n11 c11, .int .i64 t11, .slice B11 m11 d11, .int .i64 s12, .slice A12 n12 c12, .int .i64 t12, .slice B12 m12 d12] 72)) w12.heap.size (((s11,A11,n11,c11),(t11,B11,m11,d11)),((s12,A12,n12,c12),(t12,B12,m12,d12))):=DBox.made w12 _ _ _ _ _ _ _ _ _ _ _ _ _ _ _ _ _;have hp1:RepF (w12.alloc (.cells #[.int .i64 s11, .slice A11 n11 c11, .int .i64 t11, .slice B11 m11 d11, .int .i64 s12, .slice A12 n12 c12, .int .i64 t12, .slice B12 m12 d12] 72)) s11 A11 n11 c11 t11 B11 m11 d11 0:=(by constructor <;> (with_reducible repeat first|assumption|apply rZ|refine rP ?_ rfl (by simp [go_sem,hc12])));have hp2:RepF (w12.alloc (.cells #[.int .i64 s11, .slice A11 n11 c11, .int .i64 t11, .slice B11 m11 d11, .int .i64 s12, .slice A12 n12 c12, .int .i64 t12, .slice B12 m12 d12] 72)) s12 A12 n12 c12 t12 B12 m12 d12 0:=RepF.below (w:=w12) ⟨hr12,hq12⟩ (bA bR);have bV:RowKit.Below W.heap.size W (w12.alloc (.cells #[.int .i64 s11, .slice A11 n11 c11, .int .i64 t11, .slice B11 m11 d11, .int .i64 s12, .slice A12 n12 c12, .int .i64 t12, .slice B12 m12 d12] 72)):=bi;have hga:W.heap.size≤w12.heap.size:=Nat.le_trans hb11.size hb12.size;obtain ⟨V,hV⟩:∃V,(w12.alloc (.cells #[.int .i64 s11, .slice A11 n11 c11, .int .i64 t11, .slice B11 m11 d11, .int .i64 s12, .slice A12 n12 c12, .int .i64 t12, .slice B12 m12 d12] 72))=V:=⟨_,rfl⟩;rw [hV] at hD0 hp1 hp2 bV ⊢;obtain ⟨ga,hgga⟩:∃g,w12.heap.size=g:=⟨_,rfl⟩;rw [hgga] at hD0 hga ⊢;have HA:=qh hga;have hfz1:frq x z (jwE hs ⟨k1,k2,k3,k4⟩ 0)=0:=jxz HQ.o.2.2;have hfz2:frq y z (jwE hs ⟨k1,k2,k3,k4⟩ 0)=0:=jxz HQ.o.2.2;rw [←hfz1] at hp1;rw [←hfz2] at hp2;have HST:=qh (ai hD0 (ai (ai hp1 hp2) bV));have HC:=qh (ai (ai p0 (ai p1 (ai p2 p3))) (ai (ai q0 (ai q1 (ai q2 (ai q3 (ai q4 (ai q5 (ai q6 q7))))))) (ai r0 (ai r1 (ai r2 r3)))));have HZW:=qh (ai zW0 (ai zW1 zW2));clear hV hgga hb11 hb12 hc11 hc12 hf11 hf12 hr11 hq11 hr12 hq12 hfz1 hfz2 hD0 hp1 hp2 bV hga zW0 zW1 zW2 p0 p1 p2 p3 q0 q1 q2 q3 q4 q5 q6 q7 r0 r1 r2 r3;go_wp2
 go_loopw [10,18] (fun v u wr=>∃(i:Nat) (vs:List PT) (q:PT),u= .int .i64 (i:Int)∧i≤n∧Below W.heap.size W wr∧OwnD wr w.heap.size v i vs (frL hs ⟨k1,k2,k3,k4⟩ x y z i)∧DBox wr ga q∧jwy wr q (frq x z (jwE hs ⟨k1,k2,k3,k4⟩ i),frq y z (jwE hs ⟨k1,k2,k3,k4⟩ i))∧(∀k,v.ownBlock=some k→k≠ga∧W.heap.size≤k)) (fun _ u _=>n - (intOf u).toNat)
 case atStart=>exact ⟨0,[],_,rfl,Nat.zero_le _,HST.o.2.2,OwnD.nil _ _,HST.o.1,HST.o.2.1,fun k h=>by cases h⟩
 case round=>
  obtain ⟨i,vs,q,rfl,hin,hb,hV,hD,hR,hne⟩:=hrel;have _:=bm hb;have hnn:=HN.o;by_cases hi:i < n
  ·have q0:decide ((i:Int) < (n:Int))=true:=by simp;exact hi
   have q9:decide (i < n)=true:=by simpa using hi
   obtain ⟨b,o,rfl,hbl,hcell⟩:=(H.o.below (ja0 HB.o hb)).at_ (by omega);have hxy:=hcell i (by rw [H.o.len];exact hi);obtain ⟨⟨e1,e2⟩,he⟩:∃x,hs.getD i (0,0)=x:=⟨_,rfl⟩;rw [he] at hxy;obtain ⟨y0,y1⟩:=hxy;dsimp only at y0 y1;obtain ⟨f,hf⟩:∃f,jhG (e1,e2) ⟨k1,k2,k3,k4⟩=f:=⟨_,rfl⟩;have HS:=qh (fun W=>jwN (w:=W) hf)
   have hcn:jwE hs ⟨k1,k2,k3,k4⟩ (i+1)=jwE hs ⟨k1,k2,k3,k4⟩ i+(if f then 1 else 0):=by
    show jwE hs ⟨k1,k2,k3,k4⟩ i+(if jhG (hs.getD i (0,0)) ⟨k1,k2,k3,k4⟩ then 1 else 0)=_
    rw [he,hf]
   have HK:=qh (ai hcn (ai (Nat.le_trans (jwS hs ⟨k1,k2,k3,k4⟩ i) (show i≤1000 by omega)) (ai hi hne)));have HV:=qh hV;have HD:=qh hD;have HR:=qh hR;have HBR:=qh hb;have p0:=ja9 hb HC.o.1.1;have p1:=ja9 hb HC.o.1.2.1;have p2:=ja9 hb HC.o.1.2.2.1;have p3:=ja9 hb HC.o.1.2.2.2;have zp:g < wr.heap.size:=World.block_lt_of_cell? wr _ p0;clear hV hD hR hb hcell he hcn hf hne hin
   go_upto_if 24 with (go_at_call 24;(with_reducible refine mo0 (HS.o _) fun w21 hb21 hc21 hf21 _=> ?_))
   have b21:RowKit.Below wr.heap.size wr w21:=bi;have HV:=qh (HV.o.below b21);have HD:=qh (HD.o.below b21);have HR:=qh (jwy.below HR.o b21);have HBR:=qh (ja0 HBR.o b21);clear b21 hb21 hc21 hf21 y0 y1 hbl p0 p1 p2 p3 zp
   go_cut [] (fun wx=>∃q6:PT,DBox wx ga q6∧jwy wx q6 (frq x z (jwE hs ⟨k1,k2,k3,k4⟩ (i+1)),frq y z (jwE hs ⟨k1,k2,k3,k4⟩ (i+1)))∧Below W.heap.size W wx∧OwnD wx w.heap.size u10 i vs (frL hs ⟨k1,k2,k3,k4⟩ x y z i))
   case first=>
    cases f with
    | false=>
      go_wp2;go_meet;have hk:=HK.o.1;rw [if_neg (by decide),Nat.add_zero] at hk;exact ⟨q,HD.o,by rw [hk];exact HR.o,HBR.o,HV.o⟩
    | true=>
      obtain ⟨⟨⟨s4,A4,n4,c4⟩,t4,B4,m4,d4⟩,⟨⟨s5,A5,n5,c5⟩,t5,B5,m5,d5⟩⟩:=q;obtain ⟨v0,v1,v2,v3,v4,v5,v6,v7,vf⟩:=HD.o.sc;dsimp only at v0 v1 v2 v3 v4 v5 v6 v7;have zv:ga < w21.heap.size:=HD.o.lt;have q0:=ja9 HBR.o HC.o.2.1.1;have q1:=ja9 HBR.o HC.o.2.1.2.1;have q2:=ja9 HBR.o HC.o.2.1.2.2.1;have q3:=ja9 HBR.o HC.o.2.1.2.2.2.1;have q4:=ja9 HBR.o HC.o.2.1.2.2.2.2.1;have q5:=ja9 HBR.o HC.o.2.1.2.2.2.2.2.1;have q6:=ja9 HBR.o HC.o.2.1.2.2.2.2.2.2.1;have q7:=ja9 HBR.o HC.o.2.1.2.2.2.2.2.2.2;have r0:=ja9 HBR.o HC.o.2.2.1;have r1:=ja9 HBR.o HC.o.2.2.2.1;have r2:=ja9 HBR.o HC.o.2.2.2.2.1;have r3:=ja9 HBR.o HC.o.2.2.2.2.2;have zq:g+1 < w21.heap.size:=World.block_lt_of_cell? w21 _ q0;have zr:g+2 < w21.heap.size:=World.block_lt_of_cell? w21 _ r0;have vf0:=vf 0;have vf1:=vf 1;have vf2:=vf 2;have vf3:=vf 3;have vf4:=vf 4;have vf5:=vf 5;have vf6:=vf 6;have vf7:=vf 7;have HP:=qh (show ∀V,RowKit.Below w21.heap.size w21 V→RowKit.Below w.heap.size w V from fun V h=>ja0 (ja0 HB.o HBR.o) h);have HKZ:=qh (HFS.o _ HK.o.2.1);have HY1:=qh (jxy (x:=x) (z:=z) (k:=jwE hs ⟨k1,k2,k3,k4⟩ i) HQ.o.1);have HY2:=qh (jxy (x:=y) (z:=z) (k:=jwE hs ⟨k1,k2,k3,k4⟩ i) HQ.o.2.1);have HZP:=qh (ai (HKZ.o.1.add HZ.o.1) (HKZ.o.2.add HZ.o.2.1));clear vf;go_upto_region 7 with (fail)
      refine ja1 (fun w'=>Below w21.heap.size w21 w') [5] (by kernel_rfl) ?_;refine tl [(0,[], .agg #[.int .i64 s4, .slice A4 n4 c4, .int .i64 t4, .slice B4 m4 d4, .int .i64 s5, .slice A5 n5 c5, .int .i64 t5, .slice B5 m5 d5]),(1,[], .agg #[.int .i64 s1, .slice A1 n1 c1, .int .i64 t1, .slice B1 m1 d1, .int .i64 s2, .slice A2 n2 c2, .int .i64 t2, .slice B2 m2 d2]),(3,[],fv s3 A3 n3 c3 t3 B3 m3 d3)] [_,_,_] rfl (by kernel_rfl) pk5 (by intros;simp only [tyq,ppq];go_simp) bq0 ?_;simp only [tlq,ppq];refine rd1 2 (by kernel_rfl) rfl (fun K hK=> ?_);go_simp;go_wp2_with (go_at_call 70;(with_reducible refine (jxB (p:=601) (q:=601) (RepF.below HR.o.1 bi) (RepF.below HR.o.2 bi) (H1.o.below (HP.o _ bi)) (H2.o.below (HP.o _ bi)) HKZ.o.1 HKZ.o.2 HZ.o.1 HZ.o.2.1 (by omega) rfl rfl).mono ?_);rintro e22 w22 ⟨s22,A22,n22,c22,t22,B22,m22,d22,u22,C22,i22,j22,v22,D22,o22,l22,rfl,⟨⟨hr22,hq22⟩,hu22,hv22⟩,hb22⟩;obtain ⟨hc22,hf22,_⟩:=bc0 hb22)
      have sS22:=qh (bst bq0 hb22);refine hK.out _ _ (fun _=>sS22.o) ?_;clear hK K;refine rd1 4 (by kernel_rfl) rfl (fun K hK=> ?_);go_simp;go_wp2_with (go_at_call 71;(with_reducible refine (jxt (p:=1203) (q:=1202) ⟨hr22,hq22⟩ ⟨hu22,hv22⟩ (H3.o.below (HP.o _ bi)) HZP.o.1 HZP.o.2 HZ.o.2.2 (by omega) HY1.o HY2.o).mono ?_);rintro e23 w23 ⟨s23,A23,n23,c23,t23,B23,m23,d23,u23,C23,i23,j23,v23,D23,o23,l23,rfl,⟨⟨hr23,hq23⟩,hu23,hv23⟩,hb23⟩;obtain ⟨hc23,hf23,_⟩:=bc0 hb23)
      have sS23:=qh (bst sS22.o hb23);refine hK.out _ _ (fun _=>sS23.o) ?_;clear hK K;have b23:RowKit.Below w21.heap.size w21 w23:=bi;replace v0:=ja9 b23 v0;replace v1:=ja9 b23 v1;replace v2:=ja9 b23 v2;replace v3:=ja9 b23 v3;replace v4:=ja9 b23 v4;replace v5:=ja9 b23 v5;replace v6:=ja9 b23 v6;replace v7:=ja9 b23 v7;replace vf0:=(b23.frozen (p:=⟨ga,0,none⟩) zv).trans vf0;replace vf1:=(b23.frozen (p:=⟨ga,1,none⟩) zv).trans vf1;replace vf2:=(b23.frozen (p:=⟨ga,2,none⟩) zv).trans vf2;replace vf3:=(b23.frozen (p:=⟨ga,3,none⟩) zv).trans vf3;replace vf4:=(b23.frozen (p:=⟨ga,4,none⟩) zv).trans vf4;replace vf5:=(b23.frozen (p:=⟨ga,5,none⟩) zv).trans vf5;replace vf6:=(b23.frozen (p:=⟨ga,6,none⟩) zv).trans vf6;replace vf7:=(b23.frozen (p:=⟨ga,7,none⟩) zv).trans vf7;have HD2:=qh (HD.o.below b23);have HV2:=qh (HV.o.below b23);have HB2:=qh (ja0 HBR.o b23);have HR2:=qh (show jwy w23 (((s23,A23,n23,c23),(t23,B23,m23,d23)),((u23,C23,i23,j23),(v23,D23,o23,l23))) (frq x z (jwE hs ⟨k1,k2,k3,k4⟩ i+1),frq y z (jwE hs ⟨k1,k2,k3,k4⟩ i+1)) from ⟨⟨hr23,hq23⟩,⟨hu23,hv23⟩⟩);clear hb22 hb23 hc22 hc23 hf22 hf23 b23 q0 q1 q2 q3 q4 q5 q6 q7 r0 r1 r2 r3;refine rd1 5 (by kernel_rfl) rfl (fun K hK=> ?_);go_simp;refine hK.out _ _ (fun h=>(h (by decide)).elim) ?_;clear hK K;refine ja2 (by kernel_rfl) ?_ _;go_wp2;go_meet;have hk:jwE hs ⟨k1,k2,k3,k4⟩ (i+1)=jwE hs ⟨k1,k2,k3,k4⟩ i+1:=by simpa using HK.o.1
      exact ⟨_,HD2.o.setR,by rw [hk];exact HR2.o.grown jwD (fun k e=>by cases e;exact HD2.o.nou),jyk HB2.o HA.o,HV2.o.kept jwD (fun k e=>by cases e;exact HD2.o.nou) (fun k e1 e2=>by cases e2;exact (HK.o.2.2.2 _ e1).1 rfl)⟩
   case rest=>
    rename World=>wx
    obtain ⟨⟨⟨⟨s4,A4,n4,c4⟩,t4,B4,m4,d4⟩,⟨⟨s5,A5,n5,c5⟩,t5,B5,m5,d5⟩⟩,hD,hR,hb,hV⟩:=hcut;have _:=bm hb;obtain ⟨v0,v1,v2,v3,v4,v5,v6,v7,vf⟩:=hD.sc;dsimp only at v0 v1 v2 v3 v4 v5 v6 v7;have hga:=hD.lt;have hi1:i≤100000:=by omega
    have hsz:w.heap.size≤wx.heap.size:=Nat.le_trans HB.o.size hb.size;have HV:=qh hV;have HD:=qh hD;have HR:=qh hR;have HBR:=qh hb;clear vf hV hD hR hb;go_wp2_with (at_builtin;refine jwP (base:=w.heap.size) (v:=u10) (q:=(((s4,A4,n4,c4),t4,B4,m4,d4),((s5,A5,n5,c5),t5,B5,m5,d5))) (x:=(frq x z (jwE hs ⟨k1,k2,k3,k4⟩ (i+1)),frq y z (jwE hs ⟨k1,k2,k3,k4⟩ (i+1)))) rfl _ _ rfl rfl rfl rfl (HV.o.alloc _) hi1 (by simp;omega) (jwy.below HR.o (bA bR)) (fun k u hu=>by simpa [go_sem,ptc,fts] using hu) ?_;intro v24 w24 hV24 hg24 hl24)
    have hi:=HK.o.2.2.1
    exact ⟨⟨i+1,_,_,by simp,hi,jxM HBR.o hg24 (fun k e=>(HK.o.2.2.2 k e).2),by rw [jxG];exact hV24,(HD.o.below (bA bR)).grown hg24 (fun e=>(HK.o.2.2.2 ga e.symm).1 rfl),(jwy.below HR.o (bA bR)).grown hg24 (fun k e=>NoU.kept ((HV.o.nou k e)) (Below.block (bA bR) k (HV.o.lt k e).2)),fun k e=>by
     rcases hl24 with h|h
     ·exact HK.o.2.2.2 k (by rw [←h];exact e)
     ·rw [h] at e;cases e;have h1:=HD.o.lt;have h2:=HBR.o.size
      exact ⟨fun e2=>by simp at e2;omega,by simp;omega⟩⟩,by simp [intOf];omega⟩
  ·have q0:decide (i < n)=false:=by simp;omega
   obtain rfl:i=n:=by omega
   have HV:=qh hV;have HBR:=qh hb;clear hV hD hR hb hi hne;go_wp2;go_ret;exact ⟨_,vs,rfl,HV.o,ja0 HB.o HBR.o⟩
end
end Go.Proofs.YtfagcpcikjlboaaGreatDoor
