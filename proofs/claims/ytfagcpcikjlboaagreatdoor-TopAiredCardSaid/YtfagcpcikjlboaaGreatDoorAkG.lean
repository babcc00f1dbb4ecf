/- Parts. -/
import Derived.Test.YtfagcpcikjlboaaGreatDoorYiG
set_option linter.all false
set_option maxRecDepth 100000
set_option maxHeartbeats 8000000
namespace Go.Proofs.YtfagcpcikjlboaaGreatDoor
open Go Go.RowKit Go.Sort Go.Proofs.Tryz

abbrev jwZ (w:World) (base:Nat) (v:Value) (n:Nat) (ps:List (List UInt8×List UInt8)):Prop:=w.ownsRow base 25 2 v n (shs ps)
theorem jwZ.pv {w:World} {base n:Nat} {v:Value} {ps:List (List UInt8×List UInt8)} (h:jwZ w base v n ps) (hl:ps.length=n) (h0:0 < n):∃A c,v= .slice A n c∧Pv w A n ps:=by
 rcases h.2 with ⟨rfl,h1⟩|⟨g,cap,cur,rfl,hb,hg,hnc,hcm,hcs,ht⟩
 ·omega
 ·refine ⟨some ⟨g,0,none⟩,cap,rfl,hl,fun _=>⟨g,0,rfl,(Array.getElem?_eq_some_iff.1 hg).1,fun j hj=> ?_⟩⟩;have hc:=World.ownsRow.cells h (g:=g) rfl
  have c (k:Nat) (hk:k < 2) (u:Value) (hu:(shs [ps.getD j ([],[])])[k]? =some u):w.cell? ⟨g,0+j*2+k,none⟩=some u:=by
   have:=hc (j*2+k) u (by rw [jyq ps j k (by omega) hk,hu]);rw [jdP] at this;rw [Nat.zero_add];exact this
  exact ⟨c 0 (by omega) _ rfl,c 1 (by omega) _ rfl⟩
theorem jwZ.below {w w':World} {base n:Nat} {v:Value} {ps:List (List UInt8×List UInt8)} (h:jwZ w base v n ps) (hb:Below w.heap.size w w'):jwZ w' base v n ps:=
 World.ownsRow.kept h (je8 hb none) (by cases hv:v.ownBlock <;> simp)
theorem jy5:(prog.info? 25).map (fun i=>(i.zero,i.size,i.bytes))=some (some (.agg #[.string ByteArray.empty, .string ByteArray.empty]),2,32):=by kernel_rfl
theorem jy8 {w:World} {base n b c:Nat} {v:Value} {ps:List (List UInt8×List UInt8)} {x:List UInt8×List UInt8} (h:jwZ w base v n ps) (hn:n≤100000) (hb:base≤w.heap.size)
  (h0:w.cell? ⟨b,0,none⟩=some (bs x.1)) (h1:w.cell? ⟨b,1,none⟩=some (bs x.2)):
  ∃v' w',(Builtin.append_ #[35,35] 35 #[v, .slice (some ⟨b,0,none⟩) 1 c]).run prog w= .ok v' w'∧jwZ w' base v' (n+1) (ps++[x])∧w.grownBy w' v.ownBlock∧(v'.ownBlock=v.ownBlock∨v'.ownBlock=some w.heap.size):=by
 obtain ⟨i,hi,hz0,hz1,hz2⟩:=info_parts jy5
 obtain ⟨v',w',hr,k1,k2,_,k3⟩:=run_append_own_at (P:=prog) w base 35 35 25 i _ 2 32 underlying35 hi hz0 hz1 hz2 rfl (by decide) v n (shs ps) h ⟨b,0,none⟩ 1 c (shs [x]) (by simp [shs])
  (by
    intro j u hu;rw [jdP]
    match j,hu with
    | 0,hu=>simp [shs] at hu;subst hu;exact h0
    | 1,hu=>simp [shs] at hu;subst hu;exact h1
    | j+2,hu=>simp [shs] at hu)
  (by intro u hu;simp [shs] at hu;rcases hu with rfl|rfl <;> rfl)
  (by simp only [maxLen];omega) (by omega) hb
 exact ⟨v',w',hr,by rw [jwZ,jwL];exact k1,k2,k3⟩
theorem jwR {ops:Array Oper} {rest:List Oper} {o:Oper} {a:Act} {Q:Exit→Act→World→Prop} {w:World} {base n b c:Nat} {v:Value} {ps:List (List UInt8×List UInt8)} {x:List UInt8×List UInt8} (hg:o.guard=none) (s y:Operand)
  (ho:o.op= .call { callee:= .builtin .append,args:= #[s,y],argTypes:= #[35,35] }) (ht:o.type=35) (hs:a.eval s=v) (hy:a.eval y= .slice (some ⟨b,0,none⟩) 1 c)
  (h:jwZ w base v n ps) (hn:n≤100000) (hb:base≤w.heap.size) (h0:w.cell? ⟨b,0,none⟩=some (bs x.1)) (h1:w.cell? ⟨b,1,none⟩=some (bs x.2))
  (hK:∀v' w',jwZ w' base v' (n+1) (ps++[x])→w.grownBy w' v.ownBlock→(v'.ownBlock=v.ownBlock∨v'.ownBlock=some w.heap.size)→wpList prog ops Q rest (a.put o.dst v') w'):wpList prog ops Q (o::rest) a w:=by
 obtain ⟨v',w',hr,k1,k2,k3⟩:=jy8 h hn hb h0 h1;refine wpList_plain hg fun K' hK'=> ?_
 exact jiI s y ho hs hy (by rw [ht];exact hr) (hK' _ _ (hK v' w' k1 k2 k3))
theorem jwZ.slice {w:World} {base n:Nat} {v:Value} {ps:List (List UInt8×List UInt8)} (h:jwZ w base v n ps):∃A c,v= .slice A n c:=by
 rcases h.2 with ⟨rfl,h1⟩|⟨g,cap,cur,rfl,_⟩
 ·exact ⟨none,0,by rw [h1]⟩
 ·exact ⟨_,_,rfl⟩
theorem jwB {ops:Array Oper} {rest:List Oper} {o:Oper} {a:Act} {Q:Exit→Act→World→Prop} {w:World} {base n b c:Nat} {v:Value} {ps:List (List UInt8×List UInt8)} {x:List UInt8×List UInt8} (hg:o.guard=none) (s y:Operand)
  (ho:o.op= .call { callee:= .builtin .append,args:= #[s,y],argTypes:= #[35,35] }) (ht:o.type=35) (hs:a.eval s=v) (hy:a.eval y= .slice (some ⟨b,0,none⟩) 1 c)
  (h:jwZ w base v n ps) (hn:n≤100000) (hb:base≤w.heap.size) (h0:w.cell? ⟨b,0,none⟩=some (bs x.1)) (h1:w.cell? ⟨b,1,none⟩=some (bs x.2))
  (hK:∀A' c' w',jwZ w' base (.slice A' (n+1) c') (n+1) (ps++[x])→w.grownBy w' v.ownBlock→((Value.slice A' (n+1) c').ownBlock=v.ownBlock∨(Value.slice A' (n+1) c').ownBlock=some w.heap.size)→wpList prog ops Q rest (a.put o.dst (.slice A' (n+1) c')) w'):wpList prog ops Q (o::rest) a w:=
 jwR hg s y ho ht hs hy h hn hb h0 h1 (fun v' w' k1 k2 k3=>by
  obtain ⟨A',c',rfl⟩:=k1.slice
  exact hK A' c' w' k1 k2 k3)
theorem jyB {w w1:World} {k1 k2 k3 k4 s1 t1 s2 t2 s3 t3:Int} {A1 B1 A2 B2 A3 B3:Option Addr} {n1 c1 m1 d1 n2 c2 m2 d2 n3 c3 m3 d3:Nat} {x y z:Rat} (hb:Below (w.alloc (.cells #[.int .i64 k1, .int .i64 k2, .int .i64 k3, .int .i64 k4] 27)).heap.size (w.alloc (.cells #[.int .i64 k1, .int .i64 k2, .int .i64 k3, .int .i64 k4] 27)) w1)
  (h:(RepF w1 s1 A1 n1 c1 t1 B1 m1 d1 x∧RepF w1 s2 A2 n2 c2 t2 B2 m2 d2 y)∧RepF w1 s3 A3 n3 c3 t3 B3 m3 d3 z):
  ∃U gs gd gc,((w1.alloc (.cells #[.int .i64 s1, .slice A1 n1 c1, .int .i64 t1, .slice B1 m1 d1, .int .i64 s2, .slice A2 n2 c2, .int .i64 t2, .slice B2 m2 d2] 72)).alloc (.cells #[.int .i64 s3, .slice A3 n3 c3, .int .i64 t3, .slice B3 m3 d3] 70))=U∧w1.heap.size=gs∧w1.heap.size+1=gd∧w.heap.size=gc∧Below w.heap.size w U∧(U.cell? ⟨gc,0,none⟩=some (.int .i64 k1)∧U.cell? ⟨gc,1,none⟩=some (.int .i64 k2)∧U.cell? ⟨gc,2,none⟩=some (.int .i64 k3)∧U.cell? ⟨gc,3,none⟩=some (.int .i64 k4))∧DBox U gs (((s1,A1,n1,c1),(t1,B1,m1,d1)),((s2,A2,n2,c2),(t2,B2,m2,d2)))∧FC U gd ((s3,A3,n3,c3),(t3,B3,m3,d3))∧RepF U s1 A1 n1 c1 t1 B1 m1 d1 x∧RepF U s2 A2 n2 c2 t2 B2 m2 d2 y∧RepF U s3 A3 n3 c3 t3 B3 m3 d3 z:=by
 refine ⟨_,_,_,_,rfl,rfl,rfl,rfl,bA (bA (ja0 (bA bR) hb)), ?_,(DBox.made w1 _ _ _ _ _ _ _ _ _ _ _ _ _ _ _ _ _).below (bA bR), ?_,RepF.below h.1.1 (bA (bA bR)),RepF.below h.1.2 (bA (bA bR)),RepF.below h.2 (bA (bA bR))⟩
 ·refine ⟨?_, ?_, ?_, ?_⟩ <;> exact ja9 (bA (bA hb)) (by simp [go_sem])
 ·exact ⟨by simp [go_sem],by simp [go_sem],by simp [go_sem],by simp [go_sem],fun o=>by simp [go_sem]⟩
def frT (hs:List Hr) (c:Clim) (x y z:Rat) (n:Nat):List (List UInt8×List UInt8):=(frL hs c x y z n).map fun q=>(tq q.1,tq q.2)
theorem jxE (hs:List Hr) (c:Clim) (x y z:Rat) (i:Nat):frT hs c x y z (i+1)=frT hs c x y z i++[(tq (frP hs c x y z i).1,tq (frP hs c x y z i).2)]:=by
 unfold frT;rw [jxG,List.map_append];rfl
theorem jxY (hs:List Hr) (c:Clim) (x y z:Rat) (n:Nat):(frL hs c x y z n).length=n:=by unfold frL;simp
theorem jyw {hs:List Hr} {c:Clim} {x y z:Rat} {i n:Nat} (h:i < n):(frL hs c x y z n).getD i (0,0)=frP hs c x y z i:=by
 unfold frL;rw [List.getD_eq_getElem?_getD,List.getElem?_map,List.getElem?_range h];rfl
theorem jx3 (hs:List Hr) (c:Clim) (x y z:Rat) (n:Nat):(frT hs c x y z n).length=n:=by unfold frT;rw [List.length_map,jxY]
theorem jwZ.nil (w:World) (base:Nat):jwZ w base (.slice none 0 0) 0 []:=World.ownsRow_nil _ _ _ _
def Wr (x:Rat):Prop:=je3 x=false∧StrQ x
theorem Dz.wr {k:Nat} {x:Rat} (h:Dz k x) (hk:0 < k) (hk2:k≤600):Wr x:=by
 refine ⟨?_,h.strQ (by omega)⟩;have:=(jp0 h hk hk2).2.1;unfold jbq at this;cases e:je3 x
 ·rfl
 ·rw [e] at this;cases this
section
variable {w:World} {A:Option Addr} {n cap:Nat} {hs:List Hr} {c:Clim} {a b d:List UInt8}
set_option maxHeartbeats 32000000 in
theorem jyg {x y z:Rat} (hE:Env w) (h:Hv6 w A n hs) (hn:n≤1000) (hla:a.length < 4294967281) (hlb:b.length < 4294967281) (hld:d.length < 4294967281) (hx:numQ a=x) (hy:numQ b=y) (hz:numQ d=z) (hK:airE hs c a b d=0) (hW:∀k,k≤n→Wr (frq x z k)∧Wr (frq y z k)):
  Calls prog 7 #[.slice A n cap,clv c,sp a b,bs d] w fun e w'=>∃A' c',e= .returned (.tuple #[.slice A' n c', .int .i64 0])∧Pv w' A' n (frT hs c x y z n)∧Below w.heap.size w w':=by
 have ho:=jx5 hK;have HAI:=qh (fun W (hb:Below w.heap.size w W)=>jwx (cap:=cap) (hE.below hb) (h.below hb) (by omega) hla hlb hld hx hy hz hK);have HH:=qh (fun W (hb:Below w.heap.size w W)=>h.below hb);have HE:=qh hE;have HW:=qh hW;have HN:=qh hn;have HO:=qh (ai (hx ▸ ho.na.sz) (ai (hy ▸ ho.nb.sz) (ai (hz ▸ ho.nd.sz) (ai (hx ▸ ho.low) (ai (hy ▸ (Rat.le_trans ho.low ho.ord)) (hz ▸ ho.pos))))));obtain ⟨k1,k2,k3,k4⟩:=c;clear hE h hn hla hlb hld hx hy hz hK hW ho;go_enter func7,ntmps7;go_upto_region 4 with (go_at_call 25;(with_reducible refine (HAI.o _ bi).mono ?_);rintro e1 w1 ⟨s1,A1,n1,c1,t1,B1,m1,d1,s2,A2,n2,c2,t2,B2,m2,d2,s3,A3,n3,c3,t3,B3,m3,d3,rfl,hA1,hb1⟩;obtain ⟨hc1,hf1,_⟩:=bc0 hb1)
 obtain ⟨U,gs,gd,gc,hU,hgs,hgd,hgc,bU,⟨p0,p1,p2,p3⟩,ks,kd,kx,ky,kz⟩:=jyB (ja0 (bA bR) hb1) (hA1 trivial);simp only [hU,hgd];simp only [hgs,hgc];obtain ⟨r0,r1,r2,r3,r4,r5,r6,r7,_⟩:=ks.sc;obtain ⟨e0,e1,e2,e3,_⟩:=id kd;dsimp only at r0 r1 r2 r3 r4 r5 r6 r7 e0 e1 e2 e3;have HFR:=qh (jxh (cap:=cap) (c:=⟨k1,k2,k3,k4⟩) (HH.o _ bU) HN.o kx ky kz HO.o.1 HO.o.2.1 HO.o.2.2.1 HO.o.2.2.2.1 HO.o.2.2.2.2.1 HO.o.2.2.2.2.2);clear hA1 ks kd kx ky kz HAI HH hU hgs hgd hgc hb1 hc1 hf1;go_wp2_with (go_at_call 26;(with_reducible refine HFR.o.mono ?_);rintro e2 w2 ⟨v2,vs2,rfl,hv2,hb2⟩;obtain ⟨hc2,hf2,_⟩:=bc0 hb2;obtain ⟨A5,c5,rfl,hp2⟩:=hv2.ptv)
 have HP:=qh hp2;have HB2:=qh (ja0 bU hb2);have HE2:=qh (HE.o.below HB2.o);clear hb2 hc2 hf2 hv2 hp2 bU p0 p1 p2 p3 r0 r1 r2 r3 r4 r5 r6 r7 e0 e1 e2 e3 HFR HE
 go_loopw [13,36] (fun v u wr=>∃(i:Nat),u= .int .i64 (i:Int)∧i≤n∧Below w2.heap.size w2 wr∧jwZ wr w2.heap.size v i (frT hs ⟨k1,k2,k3,k4⟩ x y z i)) (fun _ u _=>n - (intOf u).toNat)
 case atStart=>exact ⟨0,rfl,Nat.zero_le _,bi,jwZ.nil _ _⟩
 case round=>
  obtain ⟨i,rfl,hin,hb,hV⟩:=hrel;have _:=bm hb;have hnn:=HN.o;by_cases hi:i < n
  ·have q0:decide ((i:Int) < (n:Int))=true:=by simp;exact hi
   have q9:decide (i < n)=true:=by simpa using hi
   obtain ⟨b,o,rfl,hbl,hcell⟩:=(HP.o.below hb).at_ (by omega);obtain ⟨⟨⟨⟨s4,A4,n4,c4⟩,t4,B4,m4,d4⟩,⟨⟨s6,A6,n6,c6⟩,t6,B6,m6,d6⟩⟩,hq,hR⟩:=hcell i hi;rw [jyw hi] at hR;have y0:=hq 0 (.int .i64 s4) rfl;have y1:=hq 1 (.slice A4 n4 c4) rfl;have y2:=hq 2 (.int .i64 t4) rfl;have y3:=hq 3 (.slice B4 m4 d4) rfl;have y4:=hq 4 (.int .i64 s6) rfl;have y5:=hq 5 (.slice A6 n6 c6) rfl;have y6:=hq 6 (.int .i64 t6) rfl;have y7:=hq 7 (.slice B6 m6 d6) rfl;rw [Nat.add_zero] at y0;have hck:jwE hs ⟨k1,k2,k3,k4⟩ (i+1)≤n:=Nat.le_trans (jwS _ _ _) hi;obtain ⟨W1,W2⟩:=HW.o _ hck;have HG:=qh (fun W (h:Below wr.heap.size wr W)=>jx0 (RepF.below hR.1 h) (RepF.below hR.2 h) W1.1 W2.1 W1.2 W2.2 (HE2.o.below (ja0 hb h)));have hst:=jxE hs ⟨k1,k2,k3,k4⟩ x y z i;obtain ⟨T1,hT1⟩:∃T,tq (frP hs ⟨k1,k2,k3,k4⟩ x y z i).1=T:=⟨_,rfl⟩;obtain ⟨T2,hT2⟩:∃T,tq (frP hs ⟨k1,k2,k3,k4⟩ x y z i).2=T:=⟨_,rfl⟩;rw [hT1,hT2] at HG hst;have HI:=qh (ai hi hst);have HV:=qh hV;have HBR:=qh hb;have hi6:i≤100000:=by omega
   clear hcell hq hR hck W1 W2 hT1 hT2 hst hV hb;go_wp2_with (first|(go_at_call 27;(with_reducible refine mo0 (HG.o _ bi) fun w4 hb4 hc4 hf4 _=> ?_))|(at_builtin;refine jwB (x:=(T1,T2)) (n:=i) (base:=w2.heap.size) rfl _ _ rfl rfl rfl rfl (((HV.o.below (bA bR)).below hb4).below (bA (bA bR))) hi6 (Nat.le_trans HBR.o.size (by have:=hb4.size;simp at this;simp;omega)) (by simp [go_sem]) (by simp [go_sem]) ?_;intro A7 c7 w7 hV7 hg7 hl7))
   have bX:Below w2.heap.size w2 w7:=by
    refine Below.trans (ja0 HBR.o (show Below wr.heap.size wr _ from ?_)) (jab hg7 ?_ (fun k e=>(World.ownsRow.lt HV.o k e).1))
    ·exact bi
    ·exact Nat.le_trans HBR.o.size (by have:=hb4.size;simp at this;simp;omega)
   have hi:=HI.o.1;exact ⟨⟨i+1,by simp,hi,bX,by rw [HI.o.2];exact hV7⟩,by simp [intOf];omega⟩
  ·have q0:decide (i < n)=false:=by simp;omega
   obtain rfl:i=n:=by omega
   have HV:=qh hV;have HBR:=qh hb;obtain ⟨A7,c7,rfl⟩:=hV.slice;clear hV hb hi;go_wp2;go_ret2;refine ⟨A7,c7,rfl,⟨jx3 _ _ _ _ _ _,fun h0=> ?_⟩,ja0 HB2.o HBR.o⟩;obtain ⟨A8,c8,e,hp⟩:=HV.o.pv (jx3 _ _ _ _ _ _) h0;cases e
   exact hp.at_ h0
end
end Go.Proofs.YtfagcpcikjlboaaGreatDoor
namespace Go.Proofs.YtfagcpcikjlboaaGreatDoor
open Go Go.RowKit

theorem cmp_zero {x y:Rat}:Rq.cmpQ x y=0↔x=y:=by
 unfold Rq.cmpQ;by_cases h:x < y
 ·rw [if_pos h];exact ⟨fun e=>absurd e (by decide),fun e=>absurd h (by rw [e];exact Rat.lt_irrefl)⟩
 ·rw [if_neg h];by_cases h2:y < x
  ·rw [if_pos h2];exact ⟨fun e=>absurd e (by decide),fun e=>absurd h2 (by rw [e];exact Rat.lt_irrefl)⟩
  ·rw [if_neg h2];exact ⟨fun _=>by grind,fun _=>rfl⟩
section
variable {w:World} {A:Option Addr} {n c p:Nat} {qs:List (Rat×Rat)} {x y z:Rat} {qd:FT} {s1 s2 t1 t2:Int} {A1 A2 B1 B2:Option Addr} {n1 n2 c1 c2 m1 m2 d1 d2:Nat}
end
section
variable {w:World} {A:Option Addr} {n cap:Nat} {hs:List Hr} {c:Clim} {a b d:List UInt8}
end
end Go.Proofs.YtfagcpcikjlboaaGreatDoor
