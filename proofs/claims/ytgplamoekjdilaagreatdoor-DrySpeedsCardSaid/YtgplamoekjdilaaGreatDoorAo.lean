/- Parts. -/
import Derived.Test.YtgplamoekjdilaaGreatDoorYkG
set_option linter.all false
set_option maxRecDepth 100000
set_option maxHeartbeats 8000000
namespace Go.Proofs.YtgplamoekjdilaaGreatDoor
open Go Go.RowKit Go.Proofs.Tryz

structure U8v (w:World) (A:Option Addr) (n:Nat) (us:List Nat):Prop where
 len:us.length=n
 small:∀u∈us,u≤255
 at_:0 < n→∃b o,A=some ⟨b,o,none⟩∧b < w.heap.size∧∀j,j < n→w.cell? ⟨b,o+j,none⟩=some (.int .u8 ((us.getD j 0:Nat):Int))
theorem U8v.below {w w':World} {A:Option Addr} {n:Nat} {us:List Nat} (h:U8v w A n us) (hb:Below w.heap.size w w'):U8v w' A n us:=
 ⟨h.len,h.small,fun hn=>by
   obtain ⟨b,o,e,h1,h2⟩:=h.at_ hn
   exact ⟨b,o,e,Nat.lt_of_lt_of_le h1 hb.size,fun j hj=>by rw [hb.cell (p:=⟨b,o+j,none⟩) h1];exact h2 j hj⟩⟩
abbrev C70:Clim:=⟨0,200,0,70⟩
theorem jxr {P:Nat} (h:P≤100):(0:Rat)≤Rat.divInt (P:Int) 100∧Rat.divInt (P:Int) 100≤1:=by
 have:∀P:Fin 101,(0:Rat)≤Rat.divInt ((P.val:Nat):Int) 100∧Rat.divInt ((P.val:Nat):Int) 100≤1:=by decide+kernel
 exact this ⟨P,by omega⟩
theorem jxZ {hs:List Hr} {c:Clim} {x y z:Rat} {i n:Nat} (h:i < n):(frT hs c x y z n).getD i ([],[])=(tq (frq x z (jwu hs c (i+1))),tq (frq y z (jwu hs c (i+1)))):=by
 unfold frT frL;rw [List.getD_eq_getElem?_getD,List.getElem?_map,List.getElem?_map,List.getElem?_range h];rfl
theorem Dz.tlen {k:Nat} {x:Rat} (h:Dz k x) (hk:k≤600):(tq x).length≤9000:=by
 have:=jur (h.mono (m:=k+1) (by omega)) (by omega);omega
section
variable {w:World} {A B:Option Addr} {n cap m c2:Nat} {hs:List Hr} {a b d:List UInt8} {us:List Nat}
set_option maxHeartbeats 16000000 in
theorem jxg (hE:Env w) (h:Hv6 w A n hs) (ho:24 < n∨12 < a.length∨12 < b.length∨12 < d.length∨jxp hs C70 a b d≠0):
  Calls prog 6 #[.slice A n cap, .agg #[bs a,bs b,bs d], .slice B m c2] w fun e w'=>e= .returned (.bool true)∧Below w.heap.size w w':=by
 have HA:=qh (fun W (hb:Below w.heap.size w W)=>hE.awake6 hb);by_cases g0:24 < n
 ·have q0:decide ((24:Int) < (n:Int))=true:=by rw [decide_eq_true_iff];omega
  clear hE h ho g0;go_enter func6,ntmps6;go_wp2_with (first|(go_at_call 12;(with_reducible refine mo0 (HA.o _ bi) fun w9 hb9 hc9 hf9 _=> ?_)))
  go_ret;exact ⟨rfl,bi⟩
 ·have q0:decide ((24:Int) < (n:Int))=false:=by rw [decide_eq_false_iff_not];omega
  have HN:=qh g0;by_cases g1:12 < a.length
  ·have q1:decide ((12:Int) < (a.length:Int))=true:=by rw [decide_eq_true_iff];omega
   clear hE h ho g0 g1;go_enter func6,ntmps6;go_wp2_with (first|(go_at_call 12;(with_reducible refine mo0 (HA.o _ bi) fun w9 hb9 hc9 hf9 _=> ?_)))
   go_ret;exact ⟨rfl,bi⟩
  ·have q1:decide ((12:Int) < (a.length:Int))=false:=by rw [decide_eq_false_iff_not];omega
   by_cases g2:12 < b.length
   ·have q2:decide ((12:Int) < (b.length:Int))=true:=by rw [decide_eq_true_iff];omega
    clear hE h ho g0 g1 g2;go_enter func6,ntmps6;go_wp2_with (first|(go_at_call 12;(with_reducible refine mo0 (HA.o _ bi) fun w9 hb9 hc9 hf9 _=> ?_)))
    go_ret;exact ⟨rfl,bi⟩
   ·have q2:decide ((12:Int) < (b.length:Int))=false:=by rw [decide_eq_false_iff_not];omega
    by_cases g3:12 < d.length
    ·have q3:decide ((12:Int) < (d.length:Int))=true:=by rw [decide_eq_true_iff];omega
     clear hE h ho g0 g1 g2 g3;go_enter func6,ntmps6;go_wp2_with (first|(go_at_call 12;(with_reducible refine mo0 (HA.o _ bi) fun w9 hb9 hc9 hf9 _=> ?_)))
     go_ret;exact ⟨rfl,bi⟩
    ·have q3:decide ((12:Int) < (d.length:Int))=false:=by rw [decide_eq_false_iff_not];omega
     obtain ⟨K,hK⟩:∃K,jxp hs C70 a b d=K:=⟨_,rfl⟩;have HAE:=qh (fun W (hb:Below w.heap.size w W)=>jxB (cap:=cap) (h.below hb) (by omega) (by omega) (by omega) (by omega) hK)
     have h0:K≠0:=by
      rcases ho with h|h|h|h|h
      ·exact absurd h g0
      ·exact absurd h g1
      ·exact absurd h g2
      ·exact absurd h g3
      ·rw [←hK];exact h
     have q4:(K != 0)=true:=by rw [bne_iff_ne];exact h0
     clear hE h ho g0 g1 g2 g3 hK h0;go_enter func6,ntmps6;go_wp2_with (first|(go_at_call 12;(with_reducible refine mo0 (HA.o _ bi) fun w9 hb9 hc9 hf9 _=> ?_))|(go_at_call 22;(with_reducible refine mo0 (HAE.o _ bi) fun w1 hb1 hc1 hf1 _=> ?_)))
     go_ret;exact ⟨rfl,bi⟩
set_option maxHeartbeats 32000000 in
theorem jx5 (hE:Env w) (h:Hv6 w A n hs) (hu:U8v w B m us) (hn:n≤24) (hla:a.length≤12) (hlb:b.length≤12) (hld:d.length≤12) (hK:jxp hs C70 a b d=0):
  Calls prog 6 #[.slice A n cap, .agg #[bs a,bs b,bs d], .slice B m c2] w fun e w'=>e= .returned (.bool true)∧Below w.heap.size w w':=by
 have HA:=qh (fun W (hb:Below w.heap.size w W)=>hE.awake6 hb);have HAE:=qh (fun W (hb:Below w.heap.size w W)=>jxB (cap:=cap) (h.below hb) (by omega) (by omega) (by omega) (by omega) hK);have ho:=jx6 hK;obtain ⟨x,hx⟩:∃x,numQ a=x:=⟨_,rfl⟩;obtain ⟨y,hy⟩:∃x,numQ b=x:=⟨_,rfl⟩;obtain ⟨z,hz⟩:∃x,numQ d=x:=⟨_,rfl⟩;have Na:=ho.na;have Nb:=ho.nb;have Nd:=ho.nd;rw [hx] at Na;rw [hy] at Nb;rw [hz] at Nd;have hx0:0≤x:=hx ▸ ho.low;have hxy:x≤y:=by have:=ho.ord;rwa [hx,hy] at this
 have hz0:0 < z:=hz ▸ ho.pos;have dx:=Na.dzl hla (by omega);have dy:=Nb.dzl hlb (by omega);have dz:=Nd.dzl hld (by omega)
 have hfd:∀k,k≤1000→Dz 16 (frq x z k)∧Dz 16 (frq y z k):=fun k hk=>by
  have dk:Dz 4 ((k:Nat):Rat):=⟨by show ((k:Nat):Rat).num.natAbs < 10^4;simp;omega,by show ((k:Nat):Rat).den < 10^4;simp⟩;unfold frq jwK;constructor <;> split
  ·exact dz.mono (by omega)
  ·exact (dk.mul dx).mono (by omega)
  ·exact dz.mono (by omega)
  ·exact (dk.mul dy).mono (by omega)
 have HFT:=qh (fun W (hb:Below w.heap.size w W)=>jxO (cap:=cap) (hE.below hb) (h.below hb) (by omega) (by omega) (by omega) (by omega) hx hy hz hK (fun k hk=>⟨((hfd k (by omega)).1).wr (by omega) (by omega),((hfd k (by omega)).2).wr (by omega) (by omega)⟩));obtain ⟨R1,hR1⟩:∃R,dix (fun q=>decide (q.2=z)) (frL hs C70 x y z n) 0=R:=⟨_,rfl⟩;obtain ⟨R2,hR2⟩:∃R,dix (fun q=>decide (q.1=z)) (frL hs C70 x y z n) 0=R:=⟨_,rfl⟩;have HTH:=qh (fun W (hb:Below w.heap.size w W)=>jxm (cap:=cap) (hE.below hb) (h.below hb) (by omega) (by omega) (by omega) (by omega) hx hy hz hK hR1 hR2);have hth:=jyb hx0 hxy hR1 hR2;have q0:decide ((24:Int) < (n:Int))=false:=by rw [decide_eq_false_iff_not];omega
 have q1:decide ((12:Int) < (a.length:Int))=false:=by rw [decide_eq_false_iff_not];omega
 have q2:decide ((12:Int) < (b.length:Int))=false:=by rw [decide_eq_false_iff_not];omega
 have q3:decide ((12:Int) < (d.length:Int))=false:=by rw [decide_eq_false_iff_not];omega
 obtain ⟨hm1,hm2,hs1,hs2,hms,hhit,hsure⟩:=hth;have t1:decide (R1 < -1)=false:=by rw [decide_eq_false_iff_not];omega
 have t2:decide ((n:Int)≤R1)=false:=by rw [decide_eq_false_iff_not];omega
 have t3:decide (R2 < -1)=false:=by rw [decide_eq_false_iff_not];omega
 have t4:decide ((n:Int)≤R2)=false:=by rw [decide_eq_false_iff_not];omega
 obtain ⟨gs,hgs⟩:∃g,decide (0≤R2)=g:=⟨_,rfl⟩;obtain ⟨gt,hgt⟩:∃g,decide (R2 < R1)=g:=⟨_,rfl⟩;obtain ⟨gm,hgm⟩:∃g,decide (R1 < 0)=g:=⟨_,rfl⟩
 have hgc:gs=true→gt=false∧gm=false:=fun e=>by
  subst e;have:=hms (of_decide_eq_true hgs);rw [←hgt,←hgm];exact ⟨by rw [decide_eq_false_iff_not];omega,by rw [decide_eq_false_iff_not];omega⟩
 have HM:=qh (And.intro hhit (And.intro hsure (And.intro hgs (And.intro hgm hgc))));have HX:=qh (And.intro hx0 (And.intro hxy (And.intro hz0 (And.intro dx (And.intro dy dz)))));have HFD:=qh hfd;have HNQ:=qh (And.intro Na.eq (And.intro Nb.eq Nd.eq));have H:=qh (fun W (hb:Below w.heap.size w W)=>h.below hb);have HU:=qh (fun W (hb:Below w.heap.size w W)=>hu.below hb);have HN:=qh hn;clear hE h hu hn hla hlb hld hK ho hx hy hz Na Nb Nd hx0 hxy hz0 dx dy dz hfd hR1 hR2 hm1 hm2 hs1 hs2 hms hhit hsure;go_enter func6,ntmps6;go_upto_region 2 with (fail)
 obtain ⟨W,hW⟩:∃W,((w.alloc (.cells #[bs a,bs b,bs d] 47)).alloc (.cells #[.int .i64 0, .int .i64 200, .int .i64 0, .int .i64 70] 43))=W:=⟨_,rfl⟩;have bW:Below w.heap.size w W:=by rw [←hW];exact bi
 have x0:W.cell? ⟨w.heap.size,0,none⟩=some (bs a):=by rw [←hW];simp [go_sem]
 have x1:W.cell? ⟨w.heap.size,1,none⟩=some (bs b):=by rw [←hW];simp [go_sem]
 have x2:W.cell? ⟨w.heap.size,2,none⟩=some (bs d):=by rw [←hW];simp [go_sem]
 have k0:W.cell? ⟨w.heap.size+1,0,none⟩=some (.int .i64 0):=by rw [←hW];simp [go_sem]
 have k1:W.cell? ⟨w.heap.size+1,1,none⟩=some (.int .i64 200):=by rw [←hW];simp [go_sem]
 have k2:W.cell? ⟨w.heap.size+1,2,none⟩=some (.int .i64 0):=by rw [←hW];simp [go_sem]
 have k3:W.cell? ⟨w.heap.size+1,3,none⟩=some (.int .i64 70):=by rw [←hW];simp [go_sem]
 rw [hW];obtain ⟨g,hg⟩:∃b,w.heap.size=b:=⟨_,rfl⟩;rw [hg] at x0 x1 x2 k0 k1 k2 k3 ⊢;have HB:=qh bW;have HG:=qh hg;have zW0:g < W.heap.size:=World.block_lt_of_cell? W _ x0;have zW1:g+1 < W.heap.size:=World.block_lt_of_cell? W _ k0;have _:Sl g W.heap.size:=⟨zW0⟩;have _:Sl (g+1) W.heap.size:=⟨zW1⟩;clear hW bW hg;go_upto_region 6 with (first|((go_at_call 22;(with_reducible refine mo0 (HAE.o _ (ja0 HB.o bi)) fun w1 hb1 hc1 hf1 _=> ?_));have y1_0:=zlt (g) hb1;have y1_1:=zlt (g+1) hb1)|(go_at_call 26;(with_reducible refine (HFT.o _ (ja0 HB.o bi)).mono ?_);rintro e2 w2 ⟨A2,c5,rfl,hp2,hb2⟩;obtain ⟨hc2,hf2,_⟩:=bc0 hb2;have y2_0:=zlt (g) hb2;have y2_1:=zlt (g+1) hb2)|((go_at_call 27;(with_reducible refine mo0 (HTH.o _ (ja0 HB.o bi)) fun w3 hb3 hc3 hf3 _=> ?_));have y3_0:=zlt (g) hb3;have y3_1:=zlt (g+1) hb3))
 have b3:RowKit.Below W.heap.size W w3:=bi;have HP:=qh (hp2.below hb3);have HCX:=qh (And.intro (ja9 b3 x0) (And.intro (ja9 b3 x1) (And.intro (ja9 b3 x2) (And.intro (ja9 b3 k0) (And.intro (ja9 b3 k1) (And.intro (ja9 b3 k2) (ja9 b3 k3)))))));have HB3:=qh (ja0 HB.o b3);clear hb1 hb2 hb3 hc1 hc2 hc3 hf1 hf2 hf3 hp2 b3 x0 x1 x2 k0 k1 k2 k3 zW0 zW1 HAE HFT HTH q0 q1 q2 q3
 go_cut [123] (fun v wx=>v= .bool false∧RowKit.Below w3.heap.size w3 wx)
 case first=>
  have hgc:=HM.o.2.2.2.2;cases gs with
  | true=>
    obtain ⟨rfl,rfl⟩:=hgc rfl;go_wp2;go_meet;exact ⟨rfl,bi⟩
  | false=>
    go_wp2;go_meet;exact ⟨rfl,bi⟩
 case rest=>
  rename World=>w4
  obtain ⟨rfl,b4⟩:=hcut;have HP:=qh (HP.o.below b4);have HCX:=qh (And.intro (ja9 b4 HCX.o.1) (And.intro (ja9 b4 HCX.o.2.1) (And.intro (ja9 b4 HCX.o.2.2.1) (And.intro (ja9 b4 HCX.o.2.2.2.1) (And.intro (ja9 b4 HCX.o.2.2.2.2.1) (And.intro (ja9 b4 HCX.o.2.2.2.2.2.1) (ja9 b4 HCX.o.2.2.2.2.2.2)))))));have HB4:=qh (ja0 HB3.o b4);clear b4 hgs hgt hgm t1 t2 t3 t4 HB3;have hz0:bs [48]=bs (tq (0:Rat)):=by rw [show tq (0:Rat)=[48] by decide+kernel]
  have HZ0:=qh (SpI.zero (hs:=hs) (c:=C70) (x:=x) (y:=y) HX.o.2.2.1);go_wp2
  go_loopw [13,126] (fun u v wr=>∃(i:Nat) (q:Rat),u=bs (tq q)∧v= .int .i64 (i:Int)∧i≤n∧Below w4.heap.size w4 wr∧SpI hs C70 x y z i q) (fun _ v _=>n - (intOf v).toNat)
  case atStart=>exact ⟨0,0,hz0,rfl,Nat.zero_le _,bi,HZ0.o⟩
  case round=>
   obtain ⟨i,q,rfl,rfl,hin,hb,hS⟩:=hrel;have _:=bm hb;have hnn:=HN.o;by_cases hi:i < n
   ·have q0:decide ((i:Int) < (n:Int))=true:=by simp;exact hi
    have q9:decide (i < n)=true:=by simpa using hi
    have hbw:=ja0 HB4.o hb;obtain ⟨bq,oq,rfl,hbl,hcell⟩:=(H.o _ hbw).at_ (by omega);have hxy:=hcell i (by rw [(H.o _ hbw).len];exact hi);obtain ⟨⟨e1,e2⟩,he⟩:∃x,hs.getD i (0,0)=x:=⟨_,rfl⟩;rw [he] at hxy;obtain ⟨y0,y1⟩:=hxy;dsimp only at y0 y1;obtain ⟨f,hf⟩:∃f,jhG (e1,e2) C70=f:=⟨_,rfl⟩;have HS:=qh (fun W=>jxw (w:=W) hf)
    have hcn:jwu hs C70 (i+1)=jwu hs C70 i+(if f then 1 else 0):=by
     show jwu hs C70 i+(if jhG (hs.getD i (0,0)) C70 then 1 else 0)=_
     rw [he,hf]
    have HK:=qh (And.intro hcn (And.intro hS hi));have x0:=ja9 hb HCX.o.1;have x1:=ja9 hb HCX.o.2.1;have x2:=ja9 hb HCX.o.2.2.1;have k0:=ja9 hb HCX.o.2.2.2.1;have k1:=ja9 hb HCX.o.2.2.2.2.1;have k2:=ja9 hb HCX.o.2.2.2.2.2.1;have k3:=ja9 hb HCX.o.2.2.2.2.2.2;have zk:g+1 < wr.heap.size:=World.block_lt_of_cell? wr _ k0;have HBR:=qh hb;clear hcell he hf hcn hS hin hbw hb
    go_upto_if 133 with (go_at_call 25;(with_reducible refine mo0 (HS.o _) fun w21 hb21 hc21 hf21 _=> ?_))
    have b21:RowKit.Below wr.heap.size wr w21:=bi;replace x0:=ja9 b21 x0;replace x1:=ja9 b21 x1;replace x2:=ja9 b21 x2;have HBR:=qh (ja0 HBR.o b21);have zg:g < w21.heap.size:=World.block_lt_of_cell? w21 _ x0;clear b21 hb21 hc21 hf21 y0 y1 k0 k1 k2 k3 zk hbl
    go_cut [13] (fun v wx=>∃q':Rat,v=bs (tq q')∧SpI hs C70 x y z (i+1) q'∧RowKit.Below w21.heap.size w21 wx)
    case first=>
     as_aux_lemma=>
      cases f with
      | false=>
        go_wp2;go_meet;exact ⟨q,rfl,HK.o.2.1.stay (by simpa using HK.o.1),bi⟩
      | true=>
        obtain ⟨P,hP⟩:∃P,(if m=0 then 0 else us.getD (i % m) 0 % 101)=P:=⟨_,rfl⟩
        have hP1:P≤100:=by
         rw [←hP];split
         ·omega
         ·have:=Nat.mod_lt (us.getD (i % m) 0) (show 0 < 101 by omega);omega
        obtain ⟨hx0,hxy,hz0,dx,dy,dz⟩:=HX.o;obtain ⟨p,hp⟩:∃p,Rat.divInt (P:Int) 100=p:=⟨_,rfl⟩;have hp01:0≤p∧p≤1:=by rw [←hp];exact jxr hP1
        have dp:Dz 3 p:=by
         have h1:=Rq.num_le (P:Int) 100;have h2:=Rq.den_le (P:Int) (b:=100) (by omega);rw [hp] at h1 h2;exact ⟨by omega,by omega⟩
        obtain ⟨v,hv⟩:∃v,x+p*(y - x)=v:=⟨_,rfl⟩;have hmid:=jy8 hxy hp01.1 hp01.2;rw [hv] at hmid;have dv:Dz 50 v:=hv ▸ (dx.add (dp.mul (dy.sub dx))).mono (by omega);have hcn:jwu hs C70 (i+1)=jwu hs C70 i+1:=by simpa using HK.o.1
        have HST:=qh (HK.o.2.1.step hcn hx0 hxy hmid.1 hmid.2 dv dz)
        have HOF:Hd (∀W:World,Calls prog 33 #[.int .i64 (P:Int), .int .i64 100] W fun e w'=>e= .returned (bs (tq p))∧Below W.heap.size W w'):=qh (fun W=>by
         have:=jkd (w:=W) (a:=(P:Int)) (d:=100) (by omega) (by omega) (by omega);rw [show ((100:Nat):Int)=100 from rfl,hp] at this
         exact this)
        have HSU:=qh (fun W=>jg3 (w:=W) dy dx (by omega) (by omega) (by omega) (by omega));have HMU:=qh (fun W=>jka (w:=W) dp (dy.sub dx) (by omega) (by omega) (by omega) (by omega));have HAD:=qh (fun W=>jto (w:=W) dx (dp.mul (dy.sub dx)) (by omega) (by omega) (by omega) (by omega));have HA2:=qh (fun W=>jto (w:=W) HK.o.2.1.dz dv (by omega) (by omega) (by omega) (by omega));have HMI:=qh (fun W=>jy9 (w:=W) dz (HK.o.2.1.dz.add dv) (by omega) (by omega) (by omega) (by omega));unfold QP at HSU HMU HAD HA2 HMI;rw [hv] at HAD;rw [←HNQ.o.1,←HNQ.o.2.1] at HSU;rw [←HNQ.o.1] at HAD;rw [←HNQ.o.2.2] at HMI;obtain ⟨TP,hTP⟩:∃T,tq p=T:=⟨_,rfl⟩;obtain ⟨T1,hT1⟩:∃T,tq (y - x)=T:=⟨_,rfl⟩;obtain ⟨T2,hT2⟩:∃T,tq (p*(y - x))=T:=⟨_,rfl⟩;obtain ⟨TV,hTV⟩:∃T,tq v=T:=⟨_,rfl⟩;obtain ⟨TS,hTS⟩:∃T,tq (q+v)=T:=⟨_,rfl⟩;obtain ⟨TQ,hTQ⟩:∃T,tq q=T:=⟨_,rfl⟩;rw [hTP] at HOF HMU;rw [hT1] at HSU HMU;rw [hT2] at HMU HAD;rw [hTV] at HAD HA2;rw [hTQ,hTS] at HA2;rw [hTS] at HMI;rw [hTQ];clear hp hp01 dp hv hmid dv hcn hTP hT1 hT2 hTV hTS hTQ hx0 hxy hz0 dx dy dz
        go_upto_if 136 with (fail)
        go_cut [16] (fun v wx=>v= .int .i64 (P:Int)∧RowKit.Below w21.heap.size w21 wx)
        case first=>
         as_aux_lemma=>
          by_cases hm:m=0
          ·rw [if_pos hm] at hP;subst hP;subst hm;clear hP1;go_wp2;go_meet;exact ⟨rfl,bi⟩
          ·rw [if_neg hm] at hP;have p1:decide ((0:Int) < (m:Int))=true:=by rw [decide_eq_true_iff];omega
           have p2:decide (0 < m)=true:=by rw [decide_eq_true_iff];omega
           obtain ⟨bu,ou,rfl,hbu,hcu⟩:=(HU.o _ (ja0 HB4.o HBR.o)).at_ (by omega);have hlt:i % m < m:=Nat.mod_lt _ (by omega);have yu:=hcu (i % m) hlt;obtain ⟨pu,hpu⟩:∃p,us.getD (i % m) 0=p:=⟨_,rfl⟩
           have hps:pu≤255:=by
            rw [←hpu];have hul:=(HU.o _ (Below.refl _ _)).len;have hus:=(HU.o _ (Below.refl _ _)).small;rw [List.getD_eq_getElem?_getD];cases e:us[i % m]? with
            | none=>simp
            | some u=>exact hus u (List.mem_of_getElem? e)
           rw [hpu] at yu hP;have r1:((i:Int)).tmod (m:Int)=((i % m:Nat):Int):=rfl;have r2:((pu:Int)).tmod 101=((pu % 101:Nat):Int):=rfl;obtain ⟨im,him⟩:∃k,i % m=k:=⟨_,rfl⟩;rw [him] at r1 yu hlt;rw [hP] at r2;have hm0:¬(m:Int)=0:=by omega
           clear hm hP hpu hcu him hP1;go_wp2;go_meet;exact ⟨rfl,bi⟩
        case rest=>
         -- FAST
         rename World=>w5
         obtain ⟨rfl,b5⟩:=hcut;replace x0:=ja9 b5 x0;replace x1:=ja9 b5 x1;replace x2:=ja9 b5 x2;have zg:g < w5.heap.size:=World.block_lt_of_cell? w5 _ x0;have HB5:=qh b5;clear b5;go_upto_region 16 with (fail)
         refine ja1 (fun w'=>Below w5.heap.size w5 w') [] (by kernel_rfl) ?_;refine tb 0 (.pointer (some ⟨g,0,none⟩)) [] rfl (by kernel_rfl) pk rfl (by intros;go_simp) bq0 ?_;simp only [ppq];refine tb 1 (.pointer (some ⟨g,0,none⟩)) [] rfl (by kernel_rfl) pk rfl (by intros;go_simp) bq0 ?_;simp only [ppq];refine tb 2 (bs a) [] rfl (by kernel_rfl) pk rfl (by intros;go_simp) bq0 ?_;simp only [ppq];refine tb 3 (.int .i64 (P:Int)) [] rfl (by kernel_rfl) pk rfl (by intros;go_simp) bq0 ?_;simp only [ppq];refine tb 5 (.pointer (some ⟨g,0,none⟩)) [] rfl (by kernel_rfl) pk rfl (by intros;go_simp) bq0 ?_;simp only [ppq];refine tb 6 (.pointer (some ⟨g,1,none⟩)) [] rfl (by kernel_rfl) pk rfl (by intros;go_simp) bq0 ?_;simp only [ppq];refine tb 7 (bs b) [] rfl (by kernel_rfl) pk rfl (by intros;go_simp) bq0 ?_;simp only [ppq];refine tb 8 (.pointer (some ⟨g,0,none⟩)) [] rfl (by kernel_rfl) pk rfl (by intros;go_simp) bq0 ?_;simp only [ppq];refine tb 9 (.pointer (some ⟨g,0,none⟩)) [] rfl (by kernel_rfl) pk rfl (by intros;go_simp) bq0 ?_;simp only [ppq];refine tb 10 (bs a) [] rfl (by kernel_rfl) pk rfl (by intros;go_simp) bq0 ?_;simp only [ppq];refine rd1 4 (by kernel_rfl) rfl (fun K hK=> ?_);go_simp;go_wp2_with (go_at_call 33;(with_reducible refine mo0 (HOF.o _) fun w22 hb22 hc22 hf22 _=> ?_))
         have sS22:=qh (bst bq0 hb22);refine hK.out _ _ (fun _=>sS22.o) ?_;clear hK K;refine rd1 11 (by kernel_rfl) rfl (fun K hK=> ?_);go_simp;go_wp2_with (go_at_call 18;(with_reducible refine mo0 (HSU.o _) fun w23 hb23 hc23 hf23 _=> ?_))
         have sS23:=qh (bst sS22.o hb23);refine hK.out _ _ (fun _=>sS23.o) ?_;clear hK K;refine rd1 12 (by kernel_rfl) rfl (fun K hK=> ?_);go_simp;go_wp2_with (go_at_call 19;(with_reducible refine mo0 (HMU.o _) fun w24 hb24 hc24 hf24 _=> ?_))
         have sS24:=qh (bst sS23.o hb24);refine hK.out _ _ (fun _=>sS24.o) ?_;clear hK K;refine rd1 13 (by kernel_rfl) rfl (fun K hK=> ?_);go_simp;go_wp2_with (go_at_call 15;(with_reducible refine mo0 (HAD.o _) fun w25 hb25 hc25 hf25 _=> ?_))
         have sS25:=qh (bst sS24.o hb25);refine hK.out _ _ (fun _=>sS25.o) ?_;clear hK K;refine rd1 14 (by kernel_rfl) rfl (fun K hK=> ?_);go_simp;refine hK.out _ _ (fun _=>bi) ?_;clear hK K;refine ja2 (by kernel_rfl) ?_ _;go_upto_region 17 with (fail)
         have b25:RowKit.Below w5.heap.size w5 w25:=bi;replace x2:=ja9 b25 x2;have zg:g < w25.heap.size:=World.block_lt_of_cell? w25 _ x2;have HB6:=qh (ja0 HB5.o b25);clear hb22 hb23 hb24 hb25 hc22 hc23 hc24 hc25 hf22 hf23 hf24 hf25 x0 x1 b25;refine ja1 (fun w'=>Below w25.heap.size w25 w') [] (by kernel_rfl) ?_;refine tb 0 (.pointer (some ⟨g,2,none⟩)) [] rfl (by kernel_rfl) pk rfl (by intros;go_simp) bq0 ?_;simp only [ppq];refine tb 1 (bs d) [] rfl (by kernel_rfl) pk rfl (by intros;go_simp) bq0 ?_;simp only [ppq];refine tb 2 (bs TQ) [] rfl (by kernel_rfl) pk rfl (by intros;go_simp) bq0 ?_;simp only [ppq];refine tb 3 (bs TV) [] rfl (by kernel_rfl) pk rfl (by intros;go_simp) bq0 ?_;simp only [ppq];refine rd1 4 (by kernel_rfl) rfl (fun K hK=> ?_);go_simp;go_wp2_with (go_at_call 15;(with_reducible refine mo0 (HA2.o _) fun w26 hb26 hc26 hf26 _=> ?_))
         have sS26:=qh (bst bq0 hb26);refine hK.out _ _ (fun _=>sS26.o) ?_;clear hK K;refine rd1 5 (by kernel_rfl) rfl (fun K hK=> ?_);go_simp;go_wp2_with (go_at_call 16;(with_reducible refine mo0 (HMI.o _) fun w27 hb27 hc27 hf27 _=> ?_))
         have sS27:=qh (bst sS26.o hb27);refine hK.out _ _ (fun _=>sS27.o) ?_;clear hK K;refine rd1 6 (by kernel_rfl) rfl (fun K hK=> ?_);go_simp;refine hK.out _ _ (fun _=>bi) ?_;clear hK K;refine ja2 (by kernel_rfl) ?_ _;go_wp2;go_meet;exact ⟨jwK z (q+v),rfl,HST.o,ja0 HB6.o bi⟩
         -- SLOW
    case rest=>
     as_aux_lemma=>
      -- FAST
      rename World=>w6
      obtain ⟨q',rfl,hS,b6⟩:=hcut;replace x2:=ja9 b6 x2;have hi:=HK.o.2.2;have HBR:=qh (ja0 HBR.o b6);obtain ⟨bf,of,rfl,hbf,hcf⟩:=(HP.o.below HBR.o).at_ (by omega);obtain ⟨c0,c1⟩:=hcf i hi;obtain ⟨p0,p1⟩:=hcf (i - 1) (by omega);rw [jxZ hi] at c0 c1;rw [jxZ (by omega)] at p0 p1;dsimp only at c0 c1 p0 p1;have hck:jwu hs C70 (i+1)≤1000:=Nat.le_trans (jwA _ _ _) (by omega);have hcp:jwu hs C70 (i - 1+1)≤1000:=Nat.le_trans (jwA _ _ _) (by omega);obtain ⟨hx0,hxy,hz0,dx,dy,dz⟩:=HX.o;obtain ⟨dl,dh⟩:=HFD.o _ hck;obtain ⟨dlp,dhp⟩:=HFD.o _ hcp;have hl:=hS.low;have hh:=hS.high;have hlh:=jxY (z:=z) (k:=jwu hs C70 (i+1)) hx0 hxy;have hhz:=jx3 (x:=y) (z:=z) (k:=jwu hs C70 (i+1));have hm1:=jwT (x:=x) (z:=z) hx0 (jwH hs C70 (show i - 1+1≤i+1 by omega));have hm2:=jwT (x:=y) (z:=z) (Rat.le_trans hx0 hxy) (jwH hs C70 (show i - 1+1≤i+1 by omega));have hhit:=HM.o.1 i hi;have hsure:=HM.o.2.1 i hi;obtain ⟨fl,hfl⟩:∃v,frq x z (jwu hs C70 (i+1))=v:=⟨_,rfl⟩;obtain ⟨fh,hfh⟩:∃v,frq y z (jwu hs C70 (i+1))=v:=⟨_,rfl⟩;obtain ⟨gl,hgl⟩:∃v,frq x z (jwu hs C70 (i - 1+1))=v:=⟨_,rfl⟩;obtain ⟨gh,hgh⟩:∃v,frq y z (jwu hs C70 (i - 1+1))=v:=⟨_,rfl⟩;rw [hfl] at c0 dl hl hlh hm1 hsure;rw [hfh] at c1 dh hh hlh hhz hm2 hhit;rw [hgl] at p0 dlp hm1;rw [hgh] at p1 dhp hm2;have HCS:=qh (fun W=>jwN (w:=W) (dl.tlen (by omega)) (dh.tlen (by omega)) (jxh dl dh (by omega) (by omega) hlh));have HIN:=qh (fun W=>jyg (w:=W) hl hh (hS.dz.mono (m:=2000) (by omega)) (dl.mono (m:=2000) (by omega)) (dh.mono (m:=2000) (by omega)) (by omega) (by omega));obtain ⟨j1,hj1⟩:∃j,Rq.cmpQ fh z=j:=⟨_,rfl⟩;obtain ⟨j2,hj2⟩:∃j,Rq.cmpQ fl gl=j:=⟨_,rfl⟩;obtain ⟨j3,hj3⟩:∃j,Rq.cmpQ fh gh=j:=⟨_,rfl⟩;have HC1:=qh (fun W=>jko (w:=W) hj1 dh dz (by omega) (by omega) (by omega) (by omega));have HC2:=qh (fun W=>jko (w:=W) hj2 dl dlp (by omega) (by omega) (by omega) (by omega));have HC3:=qh (fun W=>jko (w:=W) hj3 dh dhp (by omega) (by omega) (by omega) (by omega));have u1:decide (0 < j1)=false:=by rw [decide_eq_false_iff_not,←hj1];exact fun e=>Rat.not_lt.2 hhz (Rq.cmp_pos.1 e)
      have u2:decide (j2 < 0)=false:=by rw [decide_eq_false_iff_not,←hj2];exact fun e=>Rat.not_lt.2 hm1 (Rq.cmp_neg.1 e)
      have u3:decide (j3 < 0)=false:=by rw [decide_eq_false_iff_not,←hj3];exact fun e=>Rat.not_lt.2 hm2 (Rq.cmp_neg.1 e)
      rw [←HNQ.o.2.2] at HC1;obtain ⟨TL,hTL⟩:∃T,tq fl=T:=⟨_,rfl⟩;obtain ⟨TH,hTH⟩:∃T,tq fh=T:=⟨_,rfl⟩;obtain ⟨TLp,hTLp⟩:∃T,tq gl=T:=⟨_,rfl⟩;obtain ⟨THp,hTHp⟩:∃T,tq gh=T:=⟨_,rfl⟩;obtain ⟨TQ,hTQ⟩:∃T,tq q'=T:=⟨_,rfl⟩;obtain ⟨ge,hge⟩:∃g,(TQ==d)=g:=⟨_,rfl⟩
      have hge2:ge=true↔q'=z:=by
       rw [←hge,beq_iff_eq,←hTQ,HNQ.o.2.2];exact ⟨fun e=>jtt e,fun e=>by rw [e]⟩
      rw [hTL] at c0 HCS HIN HC2;rw [hTH] at c1 HCS HIN HC1 HC3;rw [hTLp] at p0 HC2;rw [hTHp] at p1 HC3;rw [hTQ] at HIN
      have HEND:=qh (show (ge=true→0≤R1∧R1≤(i:Int))∧(ge=false→0≤R2→¬R2≤(i:Int)) from ⟨fun e=>hhit (Rat.le_antisymm hhz (by rw [←hge2.1 e];exact hh)),fun e h1 h2=>by
       have h3:=hsure h1 h2;have h4:q'=z:=Rat.le_antisymm (Rat.le_trans hh hhz) (by rw [h3] at hl;exact hl)
       rw [hge2.2 h4] at e;cases e⟩)
      have HNX:=qh (show SpI hs C70 x y z (i+1) q'∧bs TQ=bs (tq q') from ⟨hS,by rw [hTQ]⟩);rw [hTQ];have zg:g < w6.heap.size:=World.block_lt_of_cell? w6 _ x2;have zf:bf < w6.heap.size:=hbf;clear hcf hck hcp hx0 hxy hz0 dx dy dz dl dh dlp dhp hl hh hlh hhz hm1 hm2 hhit hsure hfl hfh hgl hgh hj1 hj2 hj3 hTL hTH hTLp hTHp hTQ hge2 hS b6 x0 x1 hbf;go_upto_region 18 with (fail)
      refine ja1 (fun w'=>Below w6.heap.size w6 w') [] (by kernel_rfl) ?_;refine tb 0 (.slice (some ⟨bf,of,none⟩) n c5) [] rfl (by kernel_rfl) pk rfl (by intros;go_simp) bq0 ?_;simp only [ppq];refine tb 1 (.int .i64 (i:Int)) [] rfl (by kernel_rfl) pk rfl (by intros;go_simp) bq0 ?_;simp only [ppq];refine tb 2 (.pointer (some ⟨bf,of+i*2,none⟩)) [] rfl (by kernel_rfl) pk rfl (by intros;go_simp) bq0 ?_;simp only [ppq];refine tb 3 (.agg #[bs TL,bs TH]) [] rfl (by kernel_rfl) pk rfl (by intros;go_simp) bq0 ?_;simp only [ppq];refine rd1 4 (by kernel_rfl) rfl (fun K hK=> ?_);go_simp;go_wp2_with (go_at_call 24;(with_reducible refine mo0 (HCS.o _) fun w28 hb28 hc28 hf28 _=> ?_))
      have sS28:=qh (bst bq0 hb28);refine hK.out _ _ (fun _=>sS28.o) ?_;clear hK K;refine rd1 5 (by kernel_rfl) rfl (fun K hK=> ?_);go_simp;refine hK.out _ _ (fun _=>bi) ?_;clear hK K;refine rd1 6 (by kernel_rfl) rfl (fun K hK=> ?_);go_simp;refine hK.out _ _ (fun _=>bi) ?_;clear hK K;refine tb 7 (bs TQ) [] rfl (by kernel_rfl) pk rfl (by intros;go_simp) sS28.o ?_;simp only [ppq];refine tb 8 (.slice (some ⟨bf,of,none⟩) n c5) [] rfl (by kernel_rfl) pk rfl (by intros;go_simp) sS28.o ?_;simp only [ppq];refine tb 9 (.int .i64 (i:Int)) [] rfl (by kernel_rfl) pk rfl (by intros;go_simp) sS28.o ?_;simp only [ppq];refine tb 10 (.pointer (some ⟨bf,of+i*2,none⟩)) [] rfl (by kernel_rfl) pk rfl (by intros;go_simp) sS28.o ?_;simp only [ppq];refine tb 11 (.agg #[bs TL,bs TH]) [] rfl (by kernel_rfl) pk rfl (by intros;go_simp) sS28.o ?_;simp only [ppq];refine rd1 12 (by kernel_rfl) rfl (fun K hK=> ?_);go_simp;go_wp2_with (go_at_call 34;(with_reducible refine mo0 (HIN.o _) fun w29 hb29 hc29 hf29 _=> ?_))
      have sS29:=qh (bst sS28.o hb29);refine hK.out _ _ (fun _=>sS29.o) ?_;clear hK K;refine rd1 13 (by kernel_rfl) rfl (fun K hK=> ?_);go_simp;refine hK.out _ _ (fun _=>bi) ?_;clear hK K;refine rd1 14 (by kernel_rfl) rfl (fun K hK=> ?_);go_simp;refine hK.out _ _ (fun _=>bi) ?_;clear hK K;refine rd1 15 (by kernel_rfl) rfl (fun K hK=> ?_);go_simp;refine hK.out _ _ (fun _=>bi) ?_;clear hK K;refine tb 16 (.slice (some ⟨bf,of,none⟩) n c5) [] rfl (by kernel_rfl) pk rfl (by intros;go_simp) sS29.o ?_;simp only [ppq];refine tb 17 (.int .i64 (i:Int)) [] rfl (by kernel_rfl) pk rfl (by intros;go_simp) sS29.o ?_;simp only [ppq];refine tb 18 (.pointer (some ⟨bf,of+i*2,none⟩)) [] rfl (by kernel_rfl) pk rfl (by intros;go_simp) sS29.o ?_;simp only [ppq];refine tb 19 (.pointer (some ⟨bf,of+i*2+1,none⟩)) [] rfl (by kernel_rfl) pk rfl (by intros;go_simp) sS29.o ?_;simp only [ppq];refine tb 20 (bs TH) [] rfl (by kernel_rfl) pk rfl (by intros;go_simp) sS29.o ?_;simp only [ppq];refine tb 21 (.pointer (some ⟨g,2,none⟩)) [] rfl (by kernel_rfl) pk rfl (by intros;go_simp) sS29.o ?_;simp only [ppq];refine tb 22 (bs d) [] rfl (by kernel_rfl) pk rfl (by intros;go_simp) sS29.o ?_;simp only [ppq];refine rd1 23 (by kernel_rfl) rfl (fun K hK=> ?_);go_simp;go_wp2_with (go_at_call 11;(with_reducible refine mo0 (HC1.o _) fun w30 hb30 hc30 hf30 _=> ?_))
      have sS30:=qh (bst sS29.o hb30);refine hK.out _ _ (fun _=>sS30.o) ?_;clear hK K;refine rd1 24 (by kernel_rfl) rfl (fun K hK=> ?_);go_simp;refine hK.out _ _ (fun _=>bi) ?_;clear hK K;refine rd1 25 (by kernel_rfl) rfl (fun K hK=> ?_);go_simp;refine hK.out _ _ (fun _=>bi) ?_;clear hK K;refine ja2 (by kernel_rfl) ?_ _;go_upto_region 20 with (fail)
      have b30:RowKit.Below w6.heap.size w6 w30:=bi;replace c0:=ja9 b30 c0;replace c1:=ja9 b30 c1;replace p0:=ja9 b30 p0;replace p1:=ja9 b30 p1;replace x2:=ja9 b30 x2;have zg:g < w30.heap.size:=World.block_lt_of_cell? w30 _ x2;have zf:bf < w30.heap.size:=World.block_lt_of_cell? w30 _ c0;have HB7:=qh (ja0 HBR.o b30);clear hb28 hb29 hb30 hc28 hc29 hc30 hf28 hf29 hf30 b30
      go_cut [223] (fun v wx=>v= .bool false∧RowKit.Below w30.heap.size w30 wx)
      case first=>
       as_aux_lemma=>
        by_cases hi0:0 < i
        ·have m1:IntKind.i64.wrap ((i:Int) - 1)=((i - 1:Nat):Int):=by simp [IntKind.wrap,IntKind.bits,IntKind.signed];omega
         have m2:wrap64 ((i:Int) - 1)=((i - 1:Nat):Int):=by unfold wrap64;omega
         have t1:decide ((0:Int) < (i:Int))=true:=by rw [decide_eq_true_iff];omega
         have t2:i - 1 < n:=by omega
         refine ja1 (fun w'=>Below w30.heap.size w30 w') [] (by kernel_rfl) ?_;refine tb 0 (.int .i64 (i:Int)) [] rfl (by kernel_rfl) pk rfl (by intros;go_simp) bq0 ?_;simp only [ppq];refine tb 1 (.bool true) [] rfl (by kernel_rfl) pk rfl (by intros;go_simp) bq0 ?_;simp only [ppq];refine tb 2 (.bool true) [] rfl (by kernel_rfl) pk rfl (by intros;go_simp) bq0 ?_;simp only [ppq];refine tb 3 (.slice (some ⟨bf,of,none⟩) n c5) [] rfl (by kernel_rfl) pk rfl (by intros;go_simp) bq0 ?_;simp only [ppq];refine tb 4 (.int .i64 (i:Int)) [] rfl (by kernel_rfl) pk rfl (by intros;go_simp) bq0 ?_;simp only [ppq];refine tb 5 (.pointer (some ⟨bf,of+i*2,none⟩)) [] rfl (by kernel_rfl) pk rfl (by intros;go_simp) bq0 ?_;simp only [ppq];refine tb 6 (.pointer (some ⟨bf,of+i*2,none⟩)) [] rfl (by kernel_rfl) pk rfl (by intros;go_simp) bq0 ?_;simp only [ppq];refine tb 7 (bs TL) [] rfl (by kernel_rfl) pk rfl (by intros;go_simp) bq0 ?_;simp only [ppq];refine tb 8 (.slice (some ⟨bf,of,none⟩) n c5) [] rfl (by kernel_rfl) pk rfl (by intros;go_simp) bq0 ?_;simp only [ppq];refine tb 9 (.int .i64 (i:Int)) [] rfl (by kernel_rfl) pk rfl (by intros;go_simp) bq0 ?_;simp only [ppq];refine tb 10 (.int .i64 ((i - 1:Nat):Int)) [] rfl (by kernel_rfl) pk rfl (by intros;go_simp) bq0 ?_;simp only [ppq];refine tb 11 (.pointer (some ⟨bf,of+(i - 1)*2,none⟩)) [] rfl (by kernel_rfl) pk rfl (by intros;go_simp) bq0 ?_;simp only [ppq];refine tb 12 (.pointer (some ⟨bf,of+(i - 1)*2,none⟩)) [] rfl (by kernel_rfl) pk rfl (by intros;go_simp) bq0 ?_;simp only [ppq];refine tb 13 (bs TLp) [] rfl (by kernel_rfl) pk rfl (by intros;go_simp) bq0 ?_;simp only [ppq];refine rd1 14 (by kernel_rfl) rfl (fun K hK=> ?_);go_simp;go_wp2_with (go_at_call 11;(with_reducible refine mo0 (HC2.o _) fun w31 hb31 hc31 hf31 _=> ?_))
         have sS31:=qh (bst bq0 hb31);refine hK.out _ _ (fun _=>sS31.o) ?_;clear hK K;refine rd1 15 (by kernel_rfl) rfl (fun K hK=> ?_);go_simp;refine hK.out _ _ (fun _=>bi) ?_;clear hK K;refine rd1 16 (by kernel_rfl) rfl (fun K hK=> ?_);go_simp;refine hK.out _ _ (fun _=>bi) ?_;clear hK K;refine tb 17 (.slice (some ⟨bf,of,none⟩) n c5) [] rfl (by kernel_rfl) pk rfl (by intros;go_simp) sS31.o ?_;simp only [ppq];refine tb 18 (.int .i64 (i:Int)) [] rfl (by kernel_rfl) pk rfl (by intros;go_simp) sS31.o ?_;simp only [ppq];refine tb 19 (.pointer (some ⟨bf,of+i*2,none⟩)) [] rfl (by kernel_rfl) pk rfl (by intros;go_simp) sS31.o ?_;simp only [ppq];refine tb 20 (.pointer (some ⟨bf,of+i*2+1,none⟩)) [] rfl (by kernel_rfl) pk rfl (by intros;go_simp) sS31.o ?_;simp only [ppq];refine tb 21 (bs TH) [] rfl (by kernel_rfl) pk rfl (by intros;go_simp) sS31.o ?_;simp only [ppq];refine tb 22 (.slice (some ⟨bf,of,none⟩) n c5) [] rfl (by kernel_rfl) pk rfl (by intros;go_simp) sS31.o ?_;simp only [ppq];refine tb 23 (.int .i64 (i:Int)) [] rfl (by kernel_rfl) pk rfl (by intros;go_simp) sS31.o ?_;simp only [ppq];refine tb 24 (.int .i64 ((i - 1:Nat):Int)) [] rfl (by kernel_rfl) pk rfl (by intros;go_simp) sS31.o ?_;simp only [ppq];refine tb 25 (.pointer (some ⟨bf,of+(i - 1)*2,none⟩)) [] rfl (by kernel_rfl) pk rfl (by intros;go_simp) sS31.o ?_;simp only [ppq];refine tb 26 (.pointer (some ⟨bf,of+(i - 1)*2+1,none⟩)) [] rfl (by kernel_rfl) pk rfl (by intros;go_simp) sS31.o ?_;simp only [ppq];refine tb 27 (bs THp) [] rfl (by kernel_rfl) pk rfl (by intros;go_simp) sS31.o ?_;simp only [ppq];refine rd1 28 (by kernel_rfl) rfl (fun K hK=> ?_);go_simp;go_wp2_with (go_at_call 11;(with_reducible refine mo0 (HC3.o _) fun w32 hb32 hc32 hf32 _=> ?_))
         have sS32:=qh (bst sS31.o hb32);refine hK.out _ _ (fun _=>sS32.o) ?_;clear hK K;refine rd1 29 (by kernel_rfl) rfl (fun K hK=> ?_);go_simp;refine hK.out _ _ (fun _=>bi) ?_;clear hK K;refine rd1 30 (by kernel_rfl) rfl (fun K hK=> ?_);go_simp;refine hK.out _ _ (fun _=>bi) ?_;clear hK K;refine rd1 31 (by kernel_rfl) rfl (fun K hK=> ?_);go_simp;refine hK.out _ _ (fun _=>bi) ?_;clear hK K;refine ja2 (by kernel_rfl) ?_ _;go_wp2;go_meet;exact ⟨rfl,bi⟩
        ·have t1:decide ((0:Int) < (i:Int))=false:=by rw [decide_eq_false_iff_not];omega
         go_quiet (fail)
         go_wp2;go_meet;exact ⟨rfl,bi⟩
      case rest=>
       rename World=>w7
       obtain ⟨rfl,b7⟩:=hcut;replace x2:=ja9 b7 x2;have zg:g < w7.heap.size:=World.block_lt_of_cell? w7 _ x2;have HB8:=qh (ja0 HB7.o b7);obtain ⟨gi,hgi⟩:∃g,decide (R2≤(i:Int))=g:=⟨_,rfl⟩;obtain ⟨gk,hgk⟩:∃g,decide ((i:Int) < R1)=g:=⟨_,rfl⟩;have hgs:=HM.o.2.2.1;have hgm:=HM.o.2.2.2.1
       have HE1:=qh (show ge=true→gm=false∧gk=false from fun e=>by
        obtain ⟨h1,h2⟩:=HEND.o.1 e;rw [←hgm,←hgk]
        exact ⟨by rw [decide_eq_false_iff_not];omega,by rw [decide_eq_false_iff_not];omega⟩)
       have HE2:=qh (show ge=false→gs=true→gi=false from fun e h=>by
        subst h;rw [←hgi,decide_eq_false_iff_not];have:=HEND.o.2 e (of_decide_eq_true hgs)
        omega)
       clear b7 c0 c1 p0 p1 zf u1 u2 u3;go_upto_region 22 with (fail)
       go_cut [251] (fun v wx=>v= .bool false∧RowKit.Below w7.heap.size w7 wx)
       case first=>
        as_aux_lemma=>
         cases ge with
         | true=>
           obtain ⟨rfl,rfl⟩:=HE1.o rfl;cases gs <;> cases gi <;> (go_wp2;go_meet;exact ⟨rfl,bi⟩)
         | false=>
           cases gs with
           | true=>
             obtain rfl:=HE2.o rfl rfl;go_wp2;go_meet;exact ⟨rfl,bi⟩
           | false=>
             go_wp2;go_meet;exact ⟨rfl,bi⟩
       case rest=>
        rename World=>w8
        obtain ⟨rfl,b8⟩:=hcut;have HB9:=qh (ja0 HB8.o b8);have hi:=HK.o.2.2;clear b8;go_wp2;exact ⟨⟨i+1,q',HNX.o.2,by simp,hi,HB9.o,HNX.o.1⟩,by simp [intOf];omega⟩
      -- SLOW
   ·have q0:decide (i < n)=false:=by simp;omega
    obtain rfl:i=n:=by omega
    have HBR:=qh (ja0 HB4.o hb);clear hi hS hb;go_wp2_with (go_at_call 12;(with_reducible refine mo0 (HA.o _ (ja0 HBR.o bi)) fun w9 hb9 hc9 hf9 _=> ?_))
    go_ret;exact ⟨rfl,ja0 HBR.o bi⟩
theorem jx7 (hE:Env w) (h:Hv6 w A n hs) (_:n≤cap) (hu:U8v w B m us):
  Calls prog 6 #[.slice A n cap, .agg #[bs a,bs b,bs d], .slice B m c2] w fun e w'=>e= .returned (.bool true)∧Below w.heap.size w w':=by
 by_cases ho:24 < n∨12 < a.length∨12 < b.length∨12 < d.length∨jxp hs C70 a b d≠0
 ·exact jxg hE h ho
 ·simp only [not_or] at ho;exact jx5 hE h hu (by omega) (by omega) (by omega) (by omega) (Classical.not_not.1 ho.2.2.2.2)
end
end Go.Proofs.YtgplamoekjdilaaGreatDoor
