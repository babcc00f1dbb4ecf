/- Parts. -/
import Derived.Test.YtonifflnjjcanaaGreatDoorAkG
set_option linter.all false
set_option maxRecDepth 100000
set_option maxHeartbeats 8000000
namespace Go.Proofs.YtonifflnjjcanaaGreatDoor
open Go Go.RowKit Go.Sort Go.Proofs.Tryz

abbrev Zn:=List UInt8×(List UInt8×List UInt8)×(List UInt8×List UInt8)
def zn0:Zn:=([],([],[]),([],[]))
def zcs (ps:List Zn):List Value:=ps.flatMap fun p=> [bs p.1,bs p.2.1.1,bs p.2.1.2,bs p.2.2.1,bs p.2.2.2]
theorem jwM (a b:List Zn):zcs (a++b)=zcs a++zcs b:=by simp [zcs]
theorem jyn:∀(a:List Zn) (j k:Nat),j < a.length→k < 5→(zcs a)[j*5+k]? =(zcs [a.getD j zn0])[k]?
 | [],j,k,h,_=>absurd h (by simp)
 | q::r,0,k,_,hk=>by
   rw [show zcs (q::r)=zcs [q]++zcs r from jwM [q] r,List.getElem?_append_left (by simp [zcs];omega)];simp
 | q::r,j+1,k,h,hk=>by
   rw [show zcs (q::r)=zcs [q]++zcs r from jwM [q] r,List.getElem?_append_right (by simp [zcs];omega)];have e:(j+1)*5+k - (zcs [q]).length=j*5+k:=by simp [zcs];omega
   rw [e,jyn r j k (by simpa using h) hk];simp
structure Znv (w:World) (A:Option Addr) (n:Nat) (ls:List Zn):Prop where
 len:ls.length=n
 at_:0 < n→∃b o,A=some ⟨b,o,none⟩∧b < w.heap.size∧∀j,j < n→∀k u,(zcs [ls.getD j zn0])[k]? =some u→w.cell? ⟨b,o+j*5+k,none⟩=some u
theorem Znv.below {w w':World} {A:Option Addr} {n:Nat} {ls:List Zn} (h:Znv w A n ls) (hb:Below w.heap.size w w'):Znv w' A n ls:=
 ⟨h.len,fun hn=>by
   obtain ⟨b,o,e,h1,h2⟩:=h.at_ hn
   exact ⟨b,o,e,Nat.lt_of_lt_of_le h1 hb.size,fun j hj k u hu=>ja9 hb (h2 j hj k u hu)⟩⟩
abbrev jwO (w:World) (base:Nat) (v:Value) (n:Nat) (ps:List Zn):Prop:=w.ownsRow base 68 5 v n (zcs ps)
theorem jwO.nil (w:World) (base:Nat):jwO w base (.slice none 0 0) 0 []:=World.ownsRow_nil _ _ _ _
theorem jwO.pv {w:World} {base n:Nat} {v:Value} {ps:List Zn} (h:jwO w base v n ps) (hl:ps.length=n) (h0:0 < n):∃A c,v= .slice A n c∧Znv w A n ps:=by
 rcases h.2 with ⟨rfl,h1⟩|⟨g,cap,cur,rfl,hb,hg,hnc,hcm,hcs,ht⟩
 ·omega
 ·refine ⟨some ⟨g,0,none⟩,cap,rfl,hl,fun _=>⟨g,0,rfl,(Array.getElem?_eq_some_iff.1 hg).1,fun j hj k u hu=> ?_⟩⟩;have hk:k < 5:=by have:=(List.getElem?_eq_some_iff.1 hu).1;simpa [zcs] using this
  have hc:=World.ownsRow.cells h (g:=g) rfl;have:=hc (j*5+k) u (by rw [jyn ps j k (by omega) hk,hu]);rw [jdP] at this;rw [Nat.zero_add];exact this
theorem jwO.below {w w':World} {base n:Nat} {v:Value} {ps:List Zn} (h:jwO w base v n ps) (hb:Below w.heap.size w w'):jwO w' base v n ps:=
 World.ownsRow.kept h (je8 hb none) (by cases hv:v.ownBlock <;> simp)
theorem jye:(prog.info? 68).map (fun i=>(i.zero,i.size,i.bytes))=some (some (.agg #[.string ByteArray.empty, .string ByteArray.empty, .string ByteArray.empty, .string ByteArray.empty, .string ByteArray.empty]),5,80):=by kernel_rfl
theorem jwO.slice {w:World} {base n:Nat} {v:Value} {ps:List Zn} (h:jwO w base v n ps):∃A c,v= .slice A n c:=by
 rcases h.2 with ⟨rfl,h1⟩|⟨g,cap,cur,rfl,_⟩
 ·exact ⟨none,0,by rw [h1]⟩
 ·exact ⟨_,_,rfl⟩
structure OwnZ5 (w:World) (base:Nat) (v:Value) (n:Nat) (ps:List Zn):Prop where
 row:jwO w base v n ps
 nou:∀g,v.ownBlock=some g→NoU w g
theorem OwnZ5.nil (w:World) (base:Nat):OwnZ5 w base (.slice none 0 0) 0 []:=⟨jwO.nil _ _,fun g h=>by cases h⟩
theorem OwnZ5.kept {w w':World} {base n:Nat} {v:Value} {ps:List Zn} {row:Option Nat} (h:OwnZ5 w base v n ps) (hg:w.grownBy w' row) (hne:∀g,v.ownBlock=some g→some g≠row):OwnZ5 w' base v n ps:=
 ⟨World.ownsRow.kept h.row hg (by cases e:v.ownBlock with|none=>exact .inl rfl|some g=>exact .inr (hne g e)),fun g e=>(h.nou g e).kept (hg.block g (World.ownsRow.lt h.row g e).2 (hne g e))⟩
theorem OwnZ5.below {w w':World} {base n:Nat} {v:Value} {ps:List Zn} (h:OwnZ5 w base v n ps) (hb:Below w.heap.size w w'):OwnZ5 w' base v n ps:=
 h.kept (jeZ hb) (fun g _ e=>by cases e)
theorem jx9 {w:World} {base n b c:Nat} {v:Value} {ps:List Zn} {x:Zn} (h:OwnZ5 w base v n ps) (hn:n≤100000) (hb:base≤w.heap.size)
  (h0:∀k u,(zcs [x])[k]? =some u→w.cell? ⟨b,k,none⟩=some u):
  ∃v' w',(Builtin.append_ #[38,38] 38 #[v, .slice (some ⟨b,0,none⟩) 1 c]).run prog w= .ok v' w'∧OwnZ5 w' base v' (n+1) (ps++[x])∧w.grownBy w' v.ownBlock∧(v'.ownBlock=v.ownBlock∨v'.ownBlock=some w.heap.size):=by
 obtain ⟨i,hi,hz0,hz1,hz2⟩:=info_parts jye
 have hnews:∀j u,(zcs [x])[j]? =some u→w.cell? ((⟨b,0,none⟩:Addr).add j)=some u:=by
  intro j u hu;rw [jk6];exact h0 j u hu
 have hone:∀u∈zcs [x],u.oneCell'=true:=by intro u hu;simp [zcs] at hu;rcases hu with rfl|rfl|rfl|rfl|rfl <;> rfl
 obtain ⟨v',w',hr,k1,k2,_,k3⟩:=run_append_own_at (P:=prog) w base 38 38 68 i _ 5 80 underlying38 hi hz0 hz1 hz2 rfl (by decide) v n (zcs ps) h.row ⟨b,0,none⟩ 1 c (zcs [x]) rfl hnews hone
  (by simp only [maxLen];omega) (by omega) hb
 have hzc:∀k,∀u∈(Builtin.zeroCells (Value.agg #[.string ByteArray.empty, .string ByteArray.empty, .string ByteArray.empty, .string ByteArray.empty, .string ByteArray.empty]).cells k).toList,∀z,u≠ .int .u64 z:=by
  intro k u hu z;simp [Builtin.zeroCells,Value.cells] at hu;obtain ⟨i,_,rfl⟩:=hu;have:i % 5=0∨i % 5=1∨i % 5=2∨i % 5=3∨i % 5=4:=by omega
  rcases this with h|h|h|h|h <;> rw [h] <;> simp
 have hns:∀u∈zcs [x],∀z,u≠ .int .u64 z:=by
  intro u hu z;simp [zcs] at hu;rcases hu with rfl|rfl|rfl|rfl|rfl <;> simp
 have hnou:∀g,v'.ownBlock=some g→NoU w' g:=by
  rcases h.row.2 with ⟨rfl,rfl⟩|⟨g,cap,cur,rfl,hbg,hg,hnc,hcm,hcs,htake⟩
  ·have hr2:=run_append_nil (P:=prog) w 38 38 68 i _ underlying38 hi hz0 ⟨b,0,none⟩ 1 c (zcs [x]) (by simp [zcs,hz1]) hnews (by omega) (by omega) (by rw [hz2];omega);rw [hr] at hr2;obtain ⟨rfl,rfl⟩:=Result.ok.inj hr2;intro g hg;simp [Value.ownBlock] at hg;subst hg;refine jgw fun u hu z=> ?_
   simp only [Array.toList_append,List.mem_append] at hu;rcases hu with hu|hu
   ·exact hns u hu z
   ·exact hzc _ u hu z
  ·have hcn:∀u∈cur.toList,∀z,u≠ .int .u64 z:=by
    obtain ⟨cur',t',f',e1,e2⟩:=h.nou g rfl;rw [hg] at e1;cases e1
    exact e2
   by_cases hroom:n+1≤cap
   ·have hr2:=run_append_room (P:=prog) w 38 38 68 i underlying38 hi g n cap cur hg ⟨b,0,none⟩ 1 c (zcs [x]) (by simp [zcs,hz1]) hnews hone hroom (by rw [hz1,hcs];simp [zcs];omega);rw [hr] at hr2;obtain ⟨rfl,rfl⟩:=Result.ok.inj hr2;intro k hk;simp [Value.ownBlock] at hk;subst hk;refine ⟨_,_,_,setRow_heap w g cur _ _ _ hg,fun u hu z=> ?_⟩;simp only [List.mem_append] at hu;rcases hu with (hu|hu)|hu
    ·exact hcn u (List.mem_of_mem_take hu) z
    ·exact hns u hu z
    ·exact hcn u (List.mem_of_mem_drop hu) z
   ·have holds:∀j u,(zcs ps)[j]? =some u→w.cell? ((⟨g,0,none⟩:Addr).add j)=some u:=h.row.cells (g:=g) rfl;have hr2:=run_append_grow (P:=prog) w 38 38 68 i _ underlying38 hi hz0 ⟨g,0,none⟩ n cap (zcs ps) (by rw [hz1];exact h.row.1) holds ⟨b,0,none⟩ 1 c (zcs [x]) (by simp [zcs,hz1]) hnews (by omega) (by omega) (growslice_fits (by omega) (by rw [hz2];omega));rw [hr] at hr2;obtain ⟨rfl,rfl⟩:=Result.ok.inj hr2;intro k hk;simp [Value.ownBlock] at hk;subst hk;refine jgw fun u hu z=> ?_
    simp only [Array.toList_append,List.mem_append] at hu;rcases hu with (hu|hu)|hu
    ·refine hcn u ?_ z;have hu':u∈zcs ps:=hu;rw [←htake] at hu';exact List.mem_of_mem_take hu'
    ·exact hns u hu z
    ·exact hzc _ u hu z
 exact ⟨v',w',hr,⟨by unfold jwO;rw [jwM];exact k1,hnou⟩,k2,k3⟩
theorem jww {ops:Array Oper} {rest:List Oper} {o:Oper} {a:Act} {Q:Exit→Act→World→Prop} {w:World} {base n b c:Nat} {v:Value} {ps:List Zn} {x:Zn} (hg:o.guard=none) (s y:Operand)
  (ho:o.op= .call { callee:= .builtin .append,args:= #[s,y],argTypes:= #[38,38] }) (ht:o.type=38) (hs:a.eval s=v) (hy:a.eval y= .slice (some ⟨b,0,none⟩) 1 c)
  (h:OwnZ5 w base v n ps) (hn:n≤100000) (hb:base≤w.heap.size) (h0:∀k u,(zcs [x])[k]? =some u→w.cell? ⟨b,k,none⟩=some u)
  (hK:∀v' w',OwnZ5 w' base v' (n+1) (ps++[x])→w.grownBy w' v.ownBlock→(v'.ownBlock=v.ownBlock∨v'.ownBlock=some w.heap.size)→wpList prog ops Q rest (a.put o.dst v') w'):wpList prog ops Q (o::rest) a w:=by
 obtain ⟨v',w',hr,k1,k2,k3⟩:=jx9 h hn hb h0;refine wpList_plain hg fun K' hK'=> ?_
 exact jiI s y ho hs hy (by rw [ht];exact hr) (hK' _ _ (hK v' w' k1 k2 k3))

structure OBox (w:World) (g:Nat) (v:Value):Prop where
 heap:∃t,w.heap[g]? =some (.cells #[v] t (0,0))
 sl:∃A n c,v= .slice A n c
theorem OBox.lt {w:World} {g:Nat} {v:Value} (h:OBox w g v):g < w.heap.size:=by
 obtain ⟨t,h⟩:=h.heap;exact (Array.getElem?_eq_some_iff.1 h).1
theorem OBox.kept {w w':World} {g:Nat} {v:Value} (h:OBox w g v) (e:w'.heap[g]? =w.heap[g]?):OBox w' g v:=by
 obtain ⟨t,h1⟩:=h.heap;exact ⟨⟨t,e.trans h1⟩,h.sl⟩
theorem OBox.below {w w':World} {g:Nat} {v:Value} (h:OBox w g v) (hb:Below w.heap.size w w'):OBox w' g v:=h.kept (hb.block g h.lt)
theorem OBox.grown {w w':World} {g:Nat} {v:Value} {row:Option Nat} (h:OBox w g v) (hg:w.grownBy w' row) (hne:some g≠row):OBox w' g v:=h.kept (hg.block g h.lt hne)
theorem OBox.nou {w:World} {g:Nat} {v:Value} (h:OBox w g v):NoU w g:=by
 obtain ⟨t,h1⟩:=h.heap;obtain ⟨A,n,c,rfl⟩:=h.sl;exact ⟨_,t,_,h1,fun u hu z=>by simp at hu;subst hu;simp⟩
theorem OBox.cell {w:World} {g:Nat} {v:Value} (h:OBox w g v):w.cell? ⟨g,0,none⟩=some v∧w.frozen? ⟨g,0,none⟩=false:=by
 obtain ⟨t,h1⟩:=h.heap;refine ⟨?_, ?_⟩
 ·rw [cell_of_row w g _ _ t _ h1];rfl
 ·simp [World.frozen?,h1]
theorem OBox.made (w:World) (ty:TypeId):OBox (w.alloc (.cells #[.slice none 0 0] ty)) w.heap.size (.slice none 0 0):=⟨⟨ty,heap_alloc_new w _⟩,⟨_,_,_,rfl⟩⟩
theorem OBox.set {w:World} {g:Nat} {v:Value} (h:OBox w g v) (A:Option Addr) (n c:Nat):OBox (w.setCell ⟨g,0,none⟩ (.slice A n c)) g (.slice A n c):=by
 obtain ⟨ty,h1⟩:=h.heap;exact ⟨⟨ty,by have:=jwA 0 (.slice A n c) h1;simpa using this⟩,⟨_,_,_,rfl⟩⟩
theorem jwu {m n:Nat} {a b:World} (h:Below n a b) (hm:m≤n):Below m a b:=⟨h.os,h.tape,h.output,h.size,fun k hk=>h.block k (by omega)⟩
def jx8 (ps:List Zn) (kd:List UInt8) (a1 a2 t1 t2 z:Rat):List Zn:=
 if z≤jws a1 z then ps else ps++[(kd,(tq (jws a1 z),tq (jws a2 z)),(tq (jws t1 z),tq (jws t2 z)))]
section
variable {w:World} {B ga gd go:Nat} {kd:List UInt8} {qa:PT} {qd:FT} {v:Value} {ps:List Zn} {a1 a2 x1 x2 z:Rat} {s1 s2 t1 t2:Int} {A1 A2 B1 B2:Option Addr} {n1 n2 c1 c2 m1 m2 d1 d2:Nat}
set_option maxHeartbeats 32000000 in
theorem jya (hE:∀W,Below B w W→Env W) (hD:∀W,Below B w W→FC W gd qd∧jlE W qd z) (hA:DBox w ga qa) (hRA:jwy w qa (a1,a2)) (hT1:RepF w s1 A1 n1 c1 t1 B1 m1 d1 x1) (hT2:RepF w s2 A2 n2 c2 t2 B2 m2 d2 x2) (hO:OBox w go v) (hZ:OwnZ5 w B v ps.length ps) (hB:B≤w.heap.size) (hBA:B≤ga) (hBO:B≤go) (hgd:gd < B) (hne:ga≠go) (hv:∀k,v.ownBlock=some k→k≠ga∧k≠go)
  (za1:Sz 1300 a1) (za2:Sz 1300 a2) (zx1:Sz 1300 x1) (zx2:Sz 1300 x2) (zz:Sz 1300 z) (hn:ps.length≤1000) (W1:Wr (jws a1 z)) (W2:Wr (jws a2 z)) (W3:Wr (jws x1 z)) (W4:Wr (jws x2 z)):
  Calls prog 37 #[bs kd, .agg #[.int .i64 s1, .slice A1 n1 c1, .int .i64 t1, .slice B1 m1 d1, .int .i64 s2, .slice A2 n2 c2, .int .i64 t2, .slice B2 m2 d2], .pointer (some ⟨ga,0,none⟩), .pointer (some ⟨gd,0,none⟩), .pointer (some ⟨go,0,none⟩)] w fun e w'=>∃v' qt,e= .returned (.int .i64 0)∧DBox w' ga qt∧jwy w' qt (x1,x2)∧OBox w' go v'∧OwnZ5 w' B v' (jx8 ps kd a1 a2 x1 x2 z).length (jx8 ps kd a1 a2 x1 x2 z)∧Below B w w'∧∀k,v'.ownBlock=some k→k≠ga∧k≠go:=by
 obtain ⟨⟨⟨s4,A4,n4,c4⟩,t4,B4,m4,d4⟩,⟨⟨s5,A5,n5,c5⟩,t5,B5,m5,d5⟩⟩:=qa;obtain ⟨⟨s6,A6,n6,c6⟩,t6,B6,m6,d6⟩:=qd;obtain ⟨A7,n7,c7,rfl⟩:=hO.sl;obtain ⟨y0,y1,y2,y3,y4,y5,y6,y7,yf⟩:=hA.sc;dsimp only at y0 y1 y2 y3 y4 y5 y6 y7;obtain ⟨⟨e0,e1,e2,e3,ef⟩,hz⟩:=hD w (Below.refl _ _);dsimp only at e0 e1 e2 e3 hz;have yf0:=yf 0;have yf1:=yf 1;have yf2:=yf 2;have yf3:=yf 3;have yf4:=yf 4;have yf5:=yf 5;have yf6:=yf 6;have yf7:=yf 7;have zga:=hA.lt;have zgd:gd < w.heap.size:=by omega
 have HE:=qh hE;have HD:=qh hD;have HA:=qh (ai hA hRA);have HT:=qh (ai hT1 hT2);have HO:=qh (ai hO hZ);have HB:=qh (ai hB (ai hBA (ai hBO (ai hgd (ai hne hv)))));have HS:=qh (ai (ai za1 za2) (ai (ai zx1 zx2) (ai zz hn)));have HW:=qh (ai (ai W1 W2) (ai W3 W4));have HZ:=qh hz;have _:Sl ga w.heap.size:=⟨zga⟩;have _:Sl gd w.heap.size:=⟨zgd⟩;clear hE hD hA hRA hT1 hT2 hO hZ hB hBA hBO hgd hne hv za1 za2 zx1 zx2 zz hn W1 W2 W3 W4 hz yf ef;go_enter func37,ntmps37;go_upto_region 3 with ((go_at_call 38;(with_reducible refine (jxt (p:=1300) (q:=1300) (RepF.below HA.o.2.1 bi) (RepF.below HA.o.2.2 bi) (HZ.o.below bi) HS.o.1.1 HS.o.1.2 HS.o.2.2.1 (by omega) rfl rfl).mono ?_);rintro e11 w11 ⟨s11,A11,n11,c11,t11,B11,m11,d11,u11,C11,i11,j11,v11,D11,o11,l11,rfl,⟨⟨hr11,hq11⟩,hu11,hv11⟩,hb11⟩;obtain ⟨hc11,hf11,_⟩:=bc0 hb11);have y11_0:=zlt (ga) hb11;have y11_1:=zlt (gd) hb11;have y11_2:=zlt (w.heap.size) hb11)
 have b11:Below w.heap.size w w11:=bi;have hDA:=(HA.o.1.below b11).setR (s:=s1) (A:=A1) (n:=n1) (c:=c1) (t:=t1) (B:=B1) (m:=m1) (d:=d1) (u:=s2) (C:=A2) (i:=n2) (j:=c2) (v:=t2) (D:=B2) (o:=m2) (l:=d2);have hnA:∀k,some ga=some k→NoU w11 k:=fun k e=>by cases e;exact (HA.o.1.below b11).nou
 have hG:=jwD (w:=w11) (g:=ga) (s:=s1) (A:=A1) (n:=n1) (c:=c1) (t:=t1) (B:=B1) (m:=m1) (d:=d1) (u:=s2) (C:=A2) (i:=n2) (j:=c2) (v:=t2) (D:=B2) (o:=m2) (l:=d2);have hRT:jwy ((((((((w11.setCell ⟨ga,0,none⟩ (.int .i64 s1)).setCell ⟨ga,1,none⟩ (.slice A1 n1 c1)).setCell ⟨ga,2,none⟩ (.int .i64 t1)).setCell ⟨ga,3,none⟩ (.slice B1 m1 d1)).setCell ⟨ga,4,none⟩ (.int .i64 s2)).setCell ⟨ga,5,none⟩ (.slice A2 n2 c2)).setCell ⟨ga,6,none⟩ (.int .i64 t2)).setCell ⟨ga,7,none⟩ (.slice B2 m2 d2)) (((s1,A1,n1,c1),(t1,B1,m1,d1)),((s2,A2,n2,c2),(t2,B2,m2,d2))) (x1,x2):=jwy.grown (q:=(((s1,A1,n1,c1),(t1,B1,m1,d1)),((s2,A2,n2,c2),(t2,B2,m2,d2)))) (x:=(x1,x2)) ⟨HT.o.1.below b11,HT.o.2.below b11⟩ hG hnA;have hRB:jwy ((((((((w11.setCell ⟨ga,0,none⟩ (.int .i64 s1)).setCell ⟨ga,1,none⟩ (.slice A1 n1 c1)).setCell ⟨ga,2,none⟩ (.int .i64 t1)).setCell ⟨ga,3,none⟩ (.slice B1 m1 d1)).setCell ⟨ga,4,none⟩ (.int .i64 s2)).setCell ⟨ga,5,none⟩ (.slice A2 n2 c2)).setCell ⟨ga,6,none⟩ (.int .i64 t2)).setCell ⟨ga,7,none⟩ (.slice B2 m2 d2)) (((s11,A11,n11,c11),(t11,B11,m11,d11)),((u11,C11,i11,j11),(v11,D11,o11,l11))) (jws a1 z,jws a2 z):=jwy.grown (q:=(((s11,A11,n11,c11),(t11,B11,m11,d11)),((u11,C11,i11,j11),(v11,D11,o11,l11)))) (x:=(jws a1 z,jws a2 z)) ⟨⟨hr11,hq11⟩,⟨hu11,hv11⟩⟩ hG hnA;have hOB:=(HO.o.1.below b11).grown hG (fun e=>HB.o.2.2.2.2.1 (by cases e;rfl));have hZB:=(HO.o.2.below b11).kept hG (fun k e e2=>by cases e2;exact (HB.o.2.2.2.2.2 _ e).1 rfl);have hTB:=((DBox.made w 85 s1 t1 s2 t2 A1 B1 A2 B2 n1 c1 m1 d1 n2 c2 m2 d2).below hb11).grown hG (fun e=>by cases e;exact Nat.lt_irrefl _ zga);have bS:Below B w ((((((((w11.setCell ⟨ga,0,none⟩ (.int .i64 s1)).setCell ⟨ga,1,none⟩ (.slice A1 n1 c1)).setCell ⟨ga,2,none⟩ (.int .i64 t1)).setCell ⟨ga,3,none⟩ (.slice B1 m1 d1)).setCell ⟨ga,4,none⟩ (.int .i64 s2)).setCell ⟨ga,5,none⟩ (.slice A2 n2 c2)).setCell ⟨ga,6,none⟩ (.int .i64 t2)).setCell ⟨ga,7,none⟩ (.slice B2 m2 d2)):=(jwu b11 HB.o.1).trans (jab hG (Nat.le_trans HB.o.1 b11.size) (fun k e=>by cases e;exact HB.o.2.1));have hbot:=DBox.made ((((((((w11.setCell ⟨ga,0,none⟩ (.int .i64 s1)).setCell ⟨ga,1,none⟩ (.slice A1 n1 c1)).setCell ⟨ga,2,none⟩ (.int .i64 t1)).setCell ⟨ga,3,none⟩ (.slice B1 m1 d1)).setCell ⟨ga,4,none⟩ (.int .i64 s2)).setCell ⟨ga,5,none⟩ (.slice A2 n2 c2)).setCell ⟨ga,6,none⟩ (.int .i64 t2)).setCell ⟨ga,7,none⟩ (.slice B2 m2 d2)) 85 s11 t11 u11 v11 A11 B11 C11 D11 n11 c11 m11 d11 i11 j11 o11 l11;rw [show ((((((((w11.setCell ⟨ga,0,none⟩ (.int .i64 s1)).setCell ⟨ga,1,none⟩ (.slice A1 n1 c1)).setCell ⟨ga,2,none⟩ (.int .i64 t1)).setCell ⟨ga,3,none⟩ (.slice B1 m1 d1)).setCell ⟨ga,4,none⟩ (.int .i64 s2)).setCell ⟨ga,5,none⟩ (.slice A2 n2 c2)).setCell ⟨ga,6,none⟩ (.int .i64 t2)).setCell ⟨ga,7,none⟩ (.slice B2 m2 d2)).heap.size=w11.heap.size by simp] at hbot;obtain ⟨V,hV⟩:∃V,((((((((w11.setCell ⟨ga,0,none⟩ (.int .i64 s1)).setCell ⟨ga,1,none⟩ (.slice A1 n1 c1)).setCell ⟨ga,2,none⟩ (.int .i64 t1)).setCell ⟨ga,3,none⟩ (.slice B1 m1 d1)).setCell ⟨ga,4,none⟩ (.int .i64 s2)).setCell ⟨ga,5,none⟩ (.slice A2 n2 c2)).setCell ⟨ga,6,none⟩ (.int .i64 t2)).setCell ⟨ga,7,none⟩ (.slice B2 m2 d2)).alloc (.cells #[.int .i64 s11, .slice A11 n11 c11, .int .i64 t11, .slice B11 m11 d11, .int .i64 u11, .slice C11 i11 j11, .int .i64 v11, .slice D11 o11 l11] 85)=V:=⟨_,rfl⟩;have bV:Below ((((((((w11.setCell ⟨ga,0,none⟩ (.int .i64 s1)).setCell ⟨ga,1,none⟩ (.slice A1 n1 c1)).setCell ⟨ga,2,none⟩ (.int .i64 t1)).setCell ⟨ga,3,none⟩ (.slice B1 m1 d1)).setCell ⟨ga,4,none⟩ (.int .i64 s2)).setCell ⟨ga,5,none⟩ (.slice A2 n2 c2)).setCell ⟨ga,6,none⟩ (.int .i64 t2)).setCell ⟨ga,7,none⟩ (.slice B2 m2 d2)).heap.size ((((((((w11.setCell ⟨ga,0,none⟩ (.int .i64 s1)).setCell ⟨ga,1,none⟩ (.slice A1 n1 c1)).setCell ⟨ga,2,none⟩ (.int .i64 t1)).setCell ⟨ga,3,none⟩ (.slice B1 m1 d1)).setCell ⟨ga,4,none⟩ (.int .i64 s2)).setCell ⟨ga,5,none⟩ (.slice A2 n2 c2)).setCell ⟨ga,6,none⟩ (.int .i64 t2)).setCell ⟨ga,7,none⟩ (.slice B2 m2 d2)) V:=by rw [←hV];exact bA bR
 have hDA:=hDA.below bV;have hRT:=jwy.below hRT bV;have hRB:=jwy.below hRB bV;have hOB:=hOB.below bV;have hZB:=hZB.below bV;have hTB:=hTB.below bV;have bS:=bS.trans (jwu bV (Nat.le_trans HB.o.1 bS.size));rw [hV] at hbot ⊢;obtain ⟨g1,hg1⟩:∃g,w11.heap.size=g:=⟨_,rfl⟩;obtain ⟨g0,hg0⟩:∃g,w.heap.size=g:=⟨_,rfl⟩;rw [hg1] at hbot ⊢;rw [hg0] at hTB ⊢;have HDA:=qh hDA;have HRT:=qh hRT;have HRB:=qh hRB;have HT9:=qh hRT;have HOB:=qh (ai hOB hZB);have HTB:=qh hTB;have HBS:=qh bS;obtain ⟨j,hj⟩:∃j,Rq.cmpQ (jws a1 z) z=j:=⟨_,rfl⟩;have HJ:=qh hj;obtain ⟨p0,p1,p2,p3,p4,p5,p6,p7,pf⟩:=hbot.sc;dsimp only at p0 p1 p2 p3 p4 p5 p6 p7;obtain ⟨⟨f0,f1,f2,f3,ff⟩,hz⟩:=HD.o V bS;dsimp only at f0 f1 f2 f3 hz;have HZ2:=qh hz;have zg1:g1 < V.heap.size:=hbot.lt;have zgd2:gd < V.heap.size:=World.block_lt_of_cell? V _ f0;have zga2:ga < V.heap.size:=hDA.lt;have zg0:g0 < V.heap.size:=hTB.lt;have _:Sl g1 V.heap.size:=⟨zg1⟩;have _:Sl gd V.heap.size:=⟨zgd2⟩;have _:Sl ga V.heap.size:=⟨zga2⟩;have _:Sl g0 V.heap.size:=⟨zg0⟩;clear hDA hRT hRB hOB hZB hTB bS bV hV hg1 hg0 hbot hG hnA hc11 hf11 hb11 hr11 hq11 hu11 hv11 b11 y0 y1 y2 y3 y4 y5 y6 y7 e0 e1 e2 e3 yf0 yf1 yf2 yf3 yf4 yf5 yf6 yf7 hj hz pf ff;by_cases hd:0≤j
 ·have q0:decide (0≤j)=true:=by simpa using hd
  go_wp2_with ((go_at_call 34;(with_reducible refine mo0 (jd7 1300 1300 HJ.o (RepF.below HRB.o.1 bi) (RepF.below HZ2.o bi) (by have:=HS.o;unfold jws;split <;> grind) HS.o.2.2.1 (by omega)) fun w20 hb20 hc20 hf20 _=> ?_));have y20_0:=zlt (g0) hb20;have y20_1:=zlt (g1) hb20;have y20_2:=zlt (ga) hb20;have y20_3:=zlt (gd) hb20)
  have hle:z≤jws a1 z:=by have h:=HJ.o;unfold Rq.cmpQ at h;(repeat' split at h) <;> grind
  have hzd:jx8 ps kd a1 a2 x1 x2 z=ps:=if_pos hle;have b20:Below V.heap.size V w20:=bi;have hBV:B≤V.heap.size:=Nat.le_trans HB.o.1 HBS.o.size;go_ret;exact ⟨_,_,rfl,HDA.o.below b20,jwy.below HRT.o b20,HOB.o.1.below b20,by rw [hzd];exact HOB.o.2.below b20,HBS.o.trans (jwu b20 hBV),HB.o.2.2.2.2.2⟩
 ·have q0:decide (0≤j)=false:=by simpa using hd
  have hzd:jx8 ps kd a1 a2 x1 x2 z=ps++[(kd,(tq (jws a1 z),tq (jws a2 z)),(tq (jws x1 z),tq (jws x2 z)))]:=if_neg (by have h:=HJ.o;unfold Rq.cmpQ at h;(repeat' split at h) <;> grind);obtain ⟨T1,hT1⟩:∃T,tq (jws a1 z)=T:=⟨_,rfl⟩;obtain ⟨T2,hT2⟩:∃T,tq (jws a2 z)=T:=⟨_,rfl⟩;obtain ⟨T3,hT3⟩:∃T,tq (jws x1 z)=T:=⟨_,rfl⟩;obtain ⟨T4,hT4⟩:∃T,tq (jws x2 z)=T:=⟨_,rfl⟩;have HG1:=qh (fun W (h:Below V.heap.size V W)=>jx0 (RepF.below HRB.o.1 h) (RepF.below HRB.o.2 h) HW.o.1.1.1 HW.o.1.2.1 HW.o.1.1.2 HW.o.1.2.2 (HE.o W (HBS.o.trans (jwu h (Nat.le_trans HB.o.1 HBS.o.size)))));rw [hT1,hT2] at HG1;have HG2:=qh (fun W (h:Below V.heap.size V W) s A n c t B m d u C i k v D o l (k1:RepF W s A n c t B m d (jws x1 z)) (k2:RepF W u C i k v D o l (jws x2 z))=>jx0 k1 k2 HW.o.2.1.1 HW.o.2.2.1 HW.o.2.1.2 HW.o.2.2.2 (HE.o W (HBS.o.trans (jwu h (Nat.le_trans HB.o.1 HBS.o.size)))));rw [hT3,hT4] at HG2;rw [hT1,hT2,hT3,hT4] at hzd;have HZD:=qh hzd;have o0:=HOB.o.1.cell;obtain ⟨r0,r1,r2,r3,r4,r5,r6,r7,rf⟩:=HTB.o.sc;dsimp only at r0 r1 r2 r3 r4 r5 r6 r7;obtain ⟨o0,of⟩:=o0;have zgo:go < V.heap.size:=HOB.o.1.lt;have _:Sl go V.heap.size:=⟨zgo⟩;clear hzd hT1 hT2 hT3 hT4 rf;go_upto_region 7 with (first|((go_at_call 34;(with_reducible refine mo0 (jd7 1300 1300 HJ.o (RepF.below HRB.o.1 bi) (RepF.below HZ2.o bi) (by have:=HS.o;unfold jws;split <;> grind) HS.o.2.2.1 (by omega)) fun w20 hb20 hc20 hf20 _=> ?_));have y20_0:=zlt (g0) hb20;have y20_1:=zlt (g1) hb20;have y20_2:=zlt (ga) hb20;have y20_3:=zlt (gd) hb20;have y20_4:=zlt (go) hb20)|((go_at_call 31;(with_reducible refine mo0 (HG1.o _ bi) fun w21 hb21 hc21 hf21 _=> ?_));have y21_0:=zlt (g0) hb21;have y21_1:=zlt (g1) hb21;have y21_2:=zlt (ga) hb21;have y21_3:=zlt (gd) hb21;have y21_4:=zlt (go) hb21)|((go_at_call 38;(with_reducible refine (jxt (p:=1300) (q:=1300) (RepF.below HT9.o.1 bi) (RepF.below HT9.o.2 bi) (RepF.below HZ2.o bi) HS.o.2.1.1 HS.o.2.1.2 HS.o.2.2.1 (by omega) rfl rfl).mono ?_);rintro e22 w22 ⟨s22,A22,n22,c22,t22,B22,m22,d22,u22,C22,i22,j22,v22,D22,o22,l22,rfl,⟨⟨hr22,hq22⟩,hu22,hv22⟩,hb22⟩;obtain ⟨hc22,hf22,_⟩:=bc0 hb22);have y22_0:=zlt (g0) hb22;have y22_1:=zlt (g1) hb22;have y22_2:=zlt (ga) hb22;have y22_3:=zlt (gd) hb22;have y22_4:=zlt (go) hb22;have y22_5:=zlt (w21.heap.size) hb22)|((go_at_call 31;(with_reducible refine mo0 (HG2.o _ bi _ _ _ _ _ _ _ _ _ _ _ _ _ _ _ _ ⟨hr22,hq22⟩ ⟨hu22,hv22⟩) fun w23 hb23 hc23 hf23 _=> ?_));have y23_0:=zlt (g0) hb23;have y23_1:=zlt (g1) hb23;have y23_2:=zlt (ga) hb23;have y23_3:=zlt (gd) hb23;have y23_4:=zlt (go) hb23;have y23_5:=zlt (w21.heap.size) hb23))
  have b23:Below V.heap.size V ((w23.alloc (.cells #[bs T3,bs T4] 27))):=bi;have bq:Below (w21.alloc (.cells #[bs T1,bs T2] 27)).heap.size (w21.alloc (.cells #[bs T1,bs T2] 27)) ((w23.alloc (.cells #[bs T3,bs T4] 27))):=bi;have m0:((w23.alloc (.cells #[bs T3,bs T4] 27))).cell? ⟨w21.heap.size,0,none⟩=some (bs T1):=ja9 bq (by simp [go_sem]);have m1:((w23.alloc (.cells #[bs T3,bs T4] 27))).cell? ⟨w21.heap.size,1,none⟩=some (bs T2):=ja9 bq (by simp [go_sem]);have m2:((w23.alloc (.cells #[bs T3,bs T4] 27))).cell? ⟨w23.heap.size,0,none⟩=some (bs T3):=by simp [go_sem]
  have m3:((w23.alloc (.cells #[bs T3,bs T4] 27))).cell? ⟨w23.heap.size,1,none⟩=some (bs T4):=by simp [go_sem]
  obtain ⟨U,hU⟩:∃U,((w23.alloc (.cells #[bs T3,bs T4] 27)))=U:=⟨_,rfl⟩;obtain ⟨h1,hh1⟩:∃g,w21.heap.size=g:=⟨_,rfl⟩;obtain ⟨h2,hh2⟩:∃g,w23.heap.size=g:=⟨_,rfl⟩;rw [hU] at b23 m0 m1 m2 m3 ⊢;rw [hh1] at m0 m1 ⊢;rw [hh2] at m2 m3 ⊢;have HBU:=qh b23;have HU:=qh (ai (HOB.o.1.below b23) (HOB.o.2.below b23));obtain ⟨o1,of1⟩:=HU.o.1.cell;have zgo1:go < U.heap.size:=HU.o.1.lt;have hBU:B≤U.heap.size:=Nat.le_trans HB.o.1 (Nat.le_trans HBS.o.size b23.size);have _:Sl go U.heap.size:=⟨zgo1⟩;have hnl:ps.length≤100000:=Nat.le_trans HS.o.2.2.2 (by omega);clear b23 bq hU hh1 hh2 p0 p1 p2 p3 p4 p5 p6 p7 f0 f1 f2 f3 o0 of r0 r1 r2 r3 r4 r5 r6 r7 hb20 hb21 hb22 hb23 hr22 hq22 hu22 hv22 hc20 hc21 hc22 hc23 hf20 hf21 hf22 hf23 q0;go_upto_region 8 with (at_builtin;refine jww (base:=B) (v:= .slice A7 n7 c7) (ps:=ps) (x:=(kd,(T1,T2),(T3,T4))) rfl _ _ rfl rfl rfl rfl (HU.o.2.below (bA bR)) hnl (Nat.le_trans hBU (by simp)) (fun k u hu=>by simpa [go_sem,zcs] using hu) ?_;intro v8 w8 hV8 hg8 hl8;obtain ⟨A8,c8,rfl⟩:=hV8.row.slice;have O8:=qh ((HU.o.1.below (bA bR)).grown hg8 (fun e=>(HB.o.2.2.2.2.2 _ e.symm).2 rfl));obtain ⟨o8,of8⟩:=O8.o.cell)
  have zgaU:ga < U.heap.size:=Nat.lt_of_lt_of_le HDA.o.lt HBU.o.size
  have e8:∀k,(Value.slice A8 (ps.length+1) c8).ownBlock=some k→k≠ga∧k≠go:=fun k e=>by
   rcases hl8 with h|h
   ·exact HB.o.2.2.2.2.2 _ (by rw [←h];exact e)
   ·rw [h] at e;cases e
    exact ⟨fun e2=>by simp at e2;omega,fun e2=>by simp at e2;omega⟩
  have hgs:=jwr (w:=w8) (g:=go) (k:=0) (v:= .slice A8 (ps.length+1) c8);have hn8:∀k,(some go:Option Nat)=some k→NoU w8 k:=fun k e=>by cases e;exact O8.o.nou
  have D9:=(((HDA.o.below HBU.o).below (bA bR)).grown hg8 (fun e=>(HB.o.2.2.2.2.2 _ e.symm).1 rfl)).grown hgs (fun e=>HB.o.2.2.2.2.1 (by cases e;rfl));have R9:=((jwy.below (jwy.below HRT.o HBU.o) (bA bR)).grown hg8 (fun k e=>NoU.kept (HU.o.2.nou k e) (Below.block (bA bR) k (World.ownsRow.lt HU.o.2.row k e).2))).grown hgs hn8;have O9:=O8.o.set A8 (ps.length+1) c8;have Z9:=hV8.kept hgs (fun k e e2=>by cases e2;exact (e8 _ e).2 rfl);have hB8:B≤w8.heap.size:=Nat.le_trans hBU (Nat.le_trans (by simp) hg8.size);have b9:=(((HBS.o.trans (jwu HBU.o (Nat.le_trans HB.o.1 HBS.o.size))).trans (jwu (bA (o:= .cells #[bs kd,bs T1,bs T2,bs T3,bs T4] 68) (bR (w:=U))) hBU)).trans (jab hg8 (Nat.le_trans hBU (by simp)) (fun k e=>(World.ownsRow.lt HU.o.2.row k e).1))).trans (jab hgs hB8 (fun k e=>by cases e;exact HB.o.2.2.1));obtain ⟨S,hS⟩:∃S,w8.setCell ⟨go,0,none⟩ (.slice A8 (ps.length+1) c8)=S:=⟨_,rfl⟩;have hBS:B≤S.heap.size:=by rw [←hS];simpa using hB8
  rw [hS] at D9 R9 O9 Z9 b9 ⊢;have HD9:=qh D9;have HR9:=qh R9;have HO9:=qh (ai O9 Z9);have HB9:=qh (ai b9 e8);clear D9 R9 O9 Z9 b9 e8 hgs hn8 hS hg8 hl8 hV8 o8 of8 o1 of1 m0 m1 m2 m3 hB8;go_wp2_with (go_at_call 39;(with_reducible refine mo0 (jbl (r:=0) iv2 (by omega) rfl) fun w25 hb25 hc25 hf25 _=> ?_))
  have b25:Below S.heap.size S w25:=bi;go_ret;exact ⟨_,_,rfl,HD9.o.below b25,jwy.below HR9.o b25,HO9.o.1.below b25,by rw [HZD.o,List.length_append];exact HO9.o.2.below b25,HB9.o.1.trans (jwu b25 hBS),HB9.o.2⟩
end
end Go.Proofs.YtonifflnjjcanaaGreatDoor
