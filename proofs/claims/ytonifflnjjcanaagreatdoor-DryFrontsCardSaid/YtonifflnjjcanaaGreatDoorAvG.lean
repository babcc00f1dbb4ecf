/- Parts. -/
import Derived.Test.YtonifflnjjcanaaGreatDoorAtG
set_option linter.all false
set_option maxRecDepth 100000
set_option maxHeartbeats 8000000
namespace Go.Proofs.YtonifflnjjcanaaGreatDoor
open Go Go.RowKit Go.Sort Go.Proofs.Tryz

def jwz (z:Rat) (q:Zn):Bool:=q.2.1.1 != tq z
theorem jxH {kd:List UInt8} {a1 a2 t1 t2 z:Rat}:jwz z (kd,(tq (jws a1 z),tq (jws a2 z)),(tq (jws t1 z),tq (jws t2 z)))= !decide (z≤jws a1 z):=by
 unfold jwz;have hm:jws a1 z≤z:=by unfold jws;split <;> grind
 by_cases h:z≤jws a1 z
 ·have e:jws a1 z=z:=Rat.le_antisymm hm h;simp [e]
 ·have e:tq (jws a1 z)≠tq z:=fun e=>h (by rw [jtt e];exact Rat.le_refl)
  simp [h,e]
theorem jwW {us:List Zn} {kd:List UInt8} {a1 a2 t1 t2 z:Rat}:(us++[(kd,(tq (jws a1 z),tq (jws a2 z)),(tq (jws t1 z),tq (jws t2 z)))]).filter (jwz z)=jx8 (us.filter (jwz z)) kd a1 a2 t1 t2 z:=by
 rw [List.filter_append];unfold jx8;by_cases h:z≤jws a1 z
 ·rw [if_pos h,List.filter_cons,jxH];simp [h]
 ·rw [if_neg h,List.filter_cons,jxH];simp [h]
theorem jxK {o:Oper} {a:Act} {K:Act→World→Prop} {Q:Exit→Act→World→Prop} {w:World} {base n b c:Nat} {v:Value} {ps:List Zn} {x:Zn} (s y:Operand)
  (ho:o.op= .call { callee:= .builtin .append,args:= #[s,y],argTypes:= #[38,38] }) (ht:o.type=38) (hs:a.eval s=v) (hy:a.eval y= .slice (some ⟨b,0,none⟩) 1 c)
  (h:OwnZ5 w base v n ps) (hn:n≤100000) (hb:base≤w.heap.size) (h0:∀k u,(zcs [x])[k]? =some u→w.cell? ⟨b,k,none⟩=some u)
  (hK:∀v' w',OwnZ5 w' base v' (n+1) (ps++[x])→w.grownBy w' v.ownBlock→(v'.ownBlock=v.ownBlock∨v'.ownBlock=some w.heap.size)→K (a.put o.dst v') w'):o.wp prog a w K Q:=by
 obtain ⟨v',w',hr,k1,k2,k3⟩:=jx9 h hn hb h0;exact jdG s y ho hs hy (by rw [ht];exact hr) (hK v' w' k1 k2 k3)
theorem jy7 {hs:List Hr} {c:Clim} {n i k:Nat} (hl:hs.length=n) (h:n=i+1+k):jwK hs c k=jhG (hs.getD i (0,0)) c:=by
 unfold jwK;rw [show hs.length - 1 - k=i by omega]
structure ZB (hs:List Hr) (c:Clim) (x y z:Rat) (n k:Nat) (us:List Zn):Prop where
 run:ZR hs c x y z n k (us.filter (jwz z))
 len:us.length≤k
theorem ZB.step {hs:List Hr} {c:Clim} {x y z:Rat} {n k m:Nat} {us:List Zn} {f:Bool} (h:ZB hs c x y z n k us) (h1:k < m) (h2:m≤n) (h3:jwK hs c k=f) (h4:∀j,k≤j→j < m→jwK hs c j=f) (h5:m < n→jwK hs c m≠f):
  ZB hs c x y z n m (us++[(jxn f,(tq (frq x z k),tq (frq y z k)),(tq (frq x z m),tq (frq y z m)))]):=by
 refine ⟨?_,by simp;have:=h.len;omega⟩;rw [show us++[(jxn f,(tq (frq x z k),tq (frq y z k)),(tq (frq x z m),tq (frq y z m)))]=us++[(jxn f,(tq (jws ((k:Rat)*x) z),tq (jws ((k:Rat)*y) z)),(tq (jws ((m:Rat)*x) z),tq (jws ((m:Rat)*y) z)))] from rfl,jwW,←h3];exact ZR.run h.run h1 h2 (fun j a b=>(h4 j a b).trans h3.symm) (fun a b=>h5 a (b.trans h3))
theorem jxL {α:Type} {l:List α} {i:Nat} (d:α) (h:i < l.length):l.take (i+1)=l.take i++[l.getD i d]:=by
 rw [List.take_add_one,List.getD_eq_getElem?_getD,List.getElem?_eq_getElem h];rfl
section
variable {w:World} {A B:Option Addr} {n cap m c2:Nat} {hs:List Hr} {c:Clim} {x y z:Rat}
set_option maxHeartbeats 32000000 in
theorem jy3 (hH:Hv6 w A n hs) (hn:n≤900) (dx:Dz 30 x) (dy:Dz 30 y) (dz:Dz 30 z):
  Calls prog 14 #[.slice A n cap,clv c,sp (tq x) (tq y),bs (tq z)] w fun e w'=>∃A' c' ps,e= .returned (.slice A' (jx8 ps [111,108,100] ((n:Rat)*x) ((n:Rat)*y) z z z).length c')∧ZR hs c x y z n n ps∧Znv w' A' (jx8 ps [111,108,100] ((n:Rat)*x) ((n:Rat)*y) z z z).length (jx8 ps [111,108,100] ((n:Rat)*x) ((n:Rat)*y) z z z)∧Below w.heap.size w w':=by
 obtain ⟨k1,k2,k3,k4⟩:=c;have H:=qh hH;have HN:=qh hn;have HR6:=qh (fun (W:World) (k:Nat) (hk:k≤1000)=>jxA (w:=W) hk dx dy dz);have HZB:=qh (fun (k m:Nat) (us:List Zn) (f:Bool)=>ZB.step (hs:=hs) (c:=⟨k1,k2,k3,k4⟩) (x:=x) (y:=y) (z:=z) (n:=n) (k:=k) (m:=m) (us:=us) (f:=f));obtain ⟨TX,hTX⟩:∃T,tq x=T:=⟨_,rfl⟩;obtain ⟨TY,hTY⟩:∃T,tq y=T:=⟨_,rfl⟩;obtain ⟨TZ,hTZ⟩:∃T,tq z=T:=⟨_,rfl⟩;rw [hTX,hTY,hTZ] at HR6 ⊢;have HTZ:=qh hTZ;clear hH hn dx dy dz hTX hTY hTZ;go_enter func14,ntmps14;go_upto_region 1 with (fail)
 obtain ⟨W,hW⟩:∃W,((w.alloc (.cells #[.int .i64 k1, .int .i64 k2, .int .i64 k3, .int .i64 k4] 24)).alloc (.cells #[bs TX,bs TY] 27))=W:=⟨_,rfl⟩;have bW:RowKit.Below w.heap.size w W:=by rw [←hW];exact bi
 have p0:W.cell? ⟨w.heap.size,0,none⟩=some (.int .i64 k1):=by rw [←hW];simp [go_sem]
 have p1:W.cell? ⟨w.heap.size,1,none⟩=some (.int .i64 k2):=by rw [←hW];simp [go_sem]
 have p2:W.cell? ⟨w.heap.size,2,none⟩=some (.int .i64 k3):=by rw [←hW];simp [go_sem]
 have p3:W.cell? ⟨w.heap.size,3,none⟩=some (.int .i64 k4):=by rw [←hW];simp [go_sem]
 have q0:W.cell? ⟨w.heap.size+1,0,none⟩=some (bs TX):=by rw [←hW];simp [go_sem]
 have q1:W.cell? ⟨w.heap.size+1,1,none⟩=some (bs TY):=by rw [←hW];simp [go_sem]
 rw [hW];have HC:=qh (ai (ai p0 (ai p1 (ai p2 p3))) (ai q0 q1));have HB:=qh bW;clear hW p0 p1 p2 p3 q0 q1 bW;obtain ⟨g,hg⟩:∃g,w.heap.size=g:=⟨_,rfl⟩;rw [hg] at HC ⊢;have HG:=qh hg;clear hg;obtain ⟨B,hB⟩:∃g,W.heap.size=g:=⟨_,rfl⟩;have HBW:=qh hB;have m1:wrap64 ((n:Int) - 1)=(n:Int) - 1:=by have:=HN.o;unfold wrap64;omega
 clear hB
 go_upto_block 0 with (fail)
 simp only [m1];clear m1
 go_cut [9] (fun v wx=>∃us,ZB hs ⟨k1,k2,k3,k4⟩ x y z n n us∧RowKit.Below W.heap.size W wx∧OwnZ5 wx W.heap.size v us.length us)
 case first=>
  go_wp2
  go_loopw [9,10] (fun v u wr=>∃(k:Nat) (us:List Zn),u= .int .i64 ((n:Int) - 1 - (k:Int))∧k≤n∧ZB hs ⟨k1,k2,k3,k4⟩ x y z n k us∧RowKit.Below W.heap.size W wr∧OwnZ5 wr W.heap.size v us.length us) (fun _ u _=>(intOf u+1).toNat)
  case atStart=>exact ⟨0,[],by simp,Nat.zero_le _,⟨ZR.nil,Nat.le_refl _⟩,bi,OwnZ5.nil _ _⟩
  case round=>
   obtain ⟨k,us,rfl,hkn,hZ,hb,hV⟩:=hrel;have _:=bm hb;have hnn:=HN.o;by_cases hi:k < n
   ·obtain ⟨i,hik⟩:∃i:Nat,n=i+1+k:=⟨n - 1 - k,by omega⟩;have e1:(n:Int) - 1 - (k:Int)=(i:Int):=by omega
    rw [e1];have hin:i < n:=by omega
    have q9:decide (i < n)=true:=by simpa using hin
    have hHV:=H.o.below (ja0 HB.o hb);obtain ⟨b,o,rfl,hbl,hcell⟩:=hHV.at_ (by omega);have hlen:=hHV.len;have hxy:=hcell i (by omega);obtain ⟨⟨e3,e4⟩,he⟩:∃x,hs.getD i (0,0)=x:=⟨_,rfl⟩;rw [he] at hxy;obtain ⟨y0,y1⟩:=hxy;dsimp only at y0 y1;obtain ⟨f,hf⟩:∃f,jhG (e3,e4) ⟨k1,k2,k3,k4⟩=f:=⟨_,rfl⟩;have hend:jwK hs ⟨k1,k2,k3,k4⟩ k=f:=by rw [jy7 hlen hik,he,hf]
    have HS:=qh (fun W=>jwT (w:=W) hf);have HK:=qh (ai hend (ai hZ (ai hik hlen)));have HV:=qh hV;have HBR:=qh hb;have HXY:=qh (ai y0 (ai y1 hbl));clear hb hZ hV hHV hcell he hf hend hlen hkn hi e1 hik y0 y1 hbl;obtain ⟨wo,hwo⟩:∃W,W=wr:=⟨_,rfl⟩;subst hwo
    go_upto_block 2 with (fail)
    go_cut [11] (fun u wx=>∃m:Nat,u= .int .i64 ((n:Int) - 1 - (m:Int))∧k≤m∧m < n∧(∀j,k≤j→j≤m→jwK hs ⟨k1,k2,k3,k4⟩ j=f)∧(m+1 < n→jwK hs ⟨k1,k2,k3,k4⟩ (m+1)≠f)∧RowKit.Below wo.heap.size wo wx)
    case first=>
     go_wp2
     go_loopw [11] (fun u wx=>∃m:Nat,u= .int .i64 ((n:Int) - 1 - (m:Int))∧k≤m∧m < n∧(∀j,k≤j→j≤m→jwK hs ⟨k1,k2,k3,k4⟩ j=f)∧RowKit.Below wo.heap.size wo wx) (fun u _=>(intOf u).toNat)
     case atStart=>exact ⟨k,by have:=HK.o.2.2.1;congr 1;omega,Nat.le_refl _,by have:=HK.o.2.2.1;omega,fun j h1 h2=>by rw [show j=k by omega];exact HK.o.1,bi⟩
     case round=>
      obtain ⟨m,rfl,hkm,hmn,hfs,hb2⟩:=hrel;have _:=bm hb2;have HFS:=qh (ai hfs (ai hkm hmn));have HB2:=qh hb2;by_cases hm:m+1 < n
      ·obtain ⟨l,hlm⟩:∃l:Nat,n=l+1+m:=⟨n - 1 - m,by omega⟩;have e1:(n:Int) - 1 - (m:Int)=(l:Int):=by omega
       rw [e1];have hl0:0 < l:=by omega
       have m1:IntKind.i64.wrap ((l:Int) - 1)=((l - 1:Nat):Int):=by simp [IntKind.wrap,IntKind.bits,IntKind.signed];omega
       have m2:wrap64 ((l:Int) - 1)=((l - 1:Nat):Int):=by unfold wrap64;omega
       have t1:decide ((0:Int) < (l:Int))=true:=by rw [decide_eq_true_iff];omega
       have t2:l - 1 < n:=by omega
       have t3:decide (0 < l)=true:=by rw [decide_eq_true_iff];omega
       have q8:decide (l - 1 < n)=true:=by simpa using t2
       have bb:=ja0 HBR.o hb2;have hHV:=H.o.below (ja0 HB.o bb);obtain ⟨b',o',e,hbl,hcell⟩:=hHV.at_ (by omega);cases e
       have hlen:=hHV.len;have hxy:=hcell (l - 1) (by omega);obtain ⟨⟨e5,e6⟩,he⟩:∃x,hs.getD (l - 1) (0,0)=x:=⟨_,rfl⟩;rw [he] at hxy;obtain ⟨y0,y1⟩:=hxy;dsimp only at y0 y1;obtain ⟨f2,hf⟩:∃f,jhG (e5,e6) ⟨k1,k2,k3,k4⟩=f:=⟨_,rfl⟩;have hend:jwK hs ⟨k1,k2,k3,k4⟩ (m+1)=f2:=by rw [jy7 (i:=l - 1) hlen (by omega),he,hf]
       have HS2:=qh (fun W=>jwT (w:=W) hf);have HK2:=qh (ai hend (ai hlm hl0));have p0:=ja9 bb HC.o.1.1;have p1:=ja9 bb HC.o.1.2.1;have p2:=ja9 bb HC.o.1.2.2.1;have p3:=ja9 bb HC.o.1.2.2.2;have y2:=ja9 hb2 HXY.o.1;have y3:=ja9 hb2 HXY.o.2.1;have zp:g < wr.heap.size:=World.block_lt_of_cell? wr _ p0;clear hfs hkm hmn hb2 hm hlm e1 bb hHV hcell hlen he hf hend;go_upto_region 5 with (fail)
       refine ja1 (fun w'=>Below wr.heap.size wr w') [] (by kernel_rfl) ?_;refine tl [(0,[1], .int .i64 (l:Int)),(1,[2], .bool true),(2,[17], .bool true),(3,[6], .slice (some ⟨b,o,none⟩) n cap),(4,[5], .int .i64 (l:Int)),(5,[6], .int .i64 ((l - 1:Nat):Int)),(6,[7], .pointer (some ⟨b,o+(l - 1)*2,none⟩)),(7,[9],hrv (e5,e6))] [_,_,_,_,_,_,_,_] rfl (by kernel_rfl) pk5 (by intros;simp only [tyq,ppq];go_simp) bq0 ?_;simp only [tlq,ppq];refine tl [(8,[9],clv ⟨k1,k2,k3,k4⟩),(10,[12], .slice (some ⟨b,o,none⟩) n cap),(11,[12], .int .i64 (i:Int)),(12,[13], .pointer (some ⟨b,o+i*2,none⟩)),(13,[15],hrv (e3,e4)),(14,[15],clv ⟨k1,k2,k3,k4⟩)] [_,_,_,_,_,_] rfl (by kernel_rfl) pk5 (by intros;simp only [tyq,ppq];go_simp) bq0 ?_;simp only [tlq,ppq];refine rd1 9 (by kernel_rfl) rfl (fun K hK=> ?_);go_simp;go_wp2_with (go_at_call 47;(with_reducible refine mo0 (HS2.o _) fun w31 hb31 hc31 hf31 _=> ?_))
       have sS31:=qh (bst bq0 hb31);refine hK.out _ _ (fun _=>sS31.o) ?_;clear hK K;refine rd1 15 (by kernel_rfl) rfl (fun K hK=> ?_);go_simp;go_wp2_with (go_at_call 47;(with_reducible refine mo0 (HS.o _) fun w32 hb32 hc32 hf32 _=> ?_))
       have sS32:=qh (bst sS31.o hb32);refine hK.out _ _ (fun _=>sS32.o) ?_;clear hK K;refine rd1 16 (by kernel_rfl) rfl (fun K hK=> ?_);go_simp;refine hK.out _ _ (fun _=>bi) ?_;clear hK K;refine rd1 17 (by kernel_rfl) rfl (fun K hK=> ?_);go_simp;refine hK.out _ _ (fun _=>bi) ?_;clear hK K;refine ja2 (by kernel_rfl) ?_ _;have b32:RowKit.Below wr.heap.size wr w32:=bi;by_cases hff:f2=f
       ·subst hff;have q7:(f2==f2)=true:=by simp
        simp only [q7];clear y0 y1 y2 y3 p0 p1 p2 p3 zp q9 q8 hin hbl t1 t2 t3 q7;go_wp2;have hln:=HK2.o.2.1;have hl0:=HK2.o.2.2
        have hfj:∀j,k≤j→j≤m+1→jwK hs ⟨k1,k2,k3,k4⟩ j=f2:=fun j h1 h2=>by
         by_cases e:j=m+1
         ·rw [e];exact HK2.o.1
         ·exact HFS.o.1 j h1 (by omega)
        go_roundw
        case rel=>exact ⟨m+1,by congr 1;omega,Nat.le_trans HFS.o.2.1 (by omega),by omega,hfj,ja0 HB2.o b32⟩
        case measure=>simp [intOf];omega
       ·have q7:(f2==f)=false:=by rw [beq_eq_false_iff_ne];exact hff
        simp only [q7];clear y0 y1 y2 y3 p0 p1 p2 p3 zp q9 q8 hin hbl t1 t2 t3 m1 m2 q7;go_wp2;go_meet;have hln:=HK2.o.2.1;exact ⟨m,by congr 1;omega,HFS.o.2.1,HFS.o.2.2,HFS.o.1,fun _ e=>hff (HK2.o.1.symm.trans e),ja0 HB2.o b32⟩
      ·have e1:(n:Int) - 1 - (m:Int)=0:=by omega
       rw [e1];clear hfs hb2 q9 hin;go_upto_region 5 with (fail)
       go_quiet (fail)
       go_wp2;go_meet;exact ⟨m,by congr 1;omega,hkm,hmn,HFS.o.1,fun h=>absurd h hm,ja0 HB2.o bi⟩
    case rest=>
     rename World=>wx
     obtain ⟨m,rfl,hkm,hmn,hfs,hne,hb2⟩:=hcut;have _:=bm hb2;obtain ⟨l,hlm⟩:∃l:Nat,n=l+1+m:=⟨n - 1 - m,by omega⟩;have e1:(n:Int) - 1 - (m:Int)=(l:Int):=by omega
     rw [e1];have bb:=ja0 HBR.o hb2;have p0:=ja9 bb HC.o.1.1;have p1:=ja9 bb HC.o.1.2.1;have p2:=ja9 bb HC.o.1.2.2.1;have p3:=ja9 bb HC.o.1.2.2.2;have y0:=ja9 hb2 HXY.o.1;have y1:=ja9 hb2 HXY.o.2.1;have hbl:b < wx.heap.size:=Nat.lt_of_lt_of_le HXY.o.2.2 hb2.size;have zp:g < wx.heap.size:=World.block_lt_of_cell? wx _ p0;have hzb:=HZB.o k (m+1) us f HK.o.2.1 (by omega) hmn HK.o.1 (fun j h1 h2=>hfs j h1 (by omega)) hne;obtain ⟨M,hM⟩:∃j,j=m+1:=⟨_,rfl⟩;have hmn9:M≤n∧M=m+1∧k < M:=⟨by omega,hM,by omega⟩;rw [←hM] at hzb;clear hM;obtain ⟨kd,hkd⟩:∃t,jxn f=t:=⟨_,rfl⟩;rw [hkd] at hzb;have HR1:=qh (fun W=>HR6.o W k (by omega));have HR2:=qh (fun W=>HR6.o W M (by omega));obtain ⟨L1,hL1⟩:∃T,tq (frq x z k)=T:=⟨_,rfl⟩;obtain ⟨L2,hL2⟩:∃T,tq (frq y z k)=T:=⟨_,rfl⟩;obtain ⟨L3,hL3⟩:∃T,tq (frq x z M)=T:=⟨_,rfl⟩;obtain ⟨L4,hL4⟩:∃T,tq (frq y z M)=T:=⟨_,rfl⟩;rw [hL1,hL2] at HR1;rw [hL3,hL4] at HR2;rw [hL1,hL2,hL3,hL4] at hzb;have hul:us.length≤100000:=Nat.le_trans HK.o.2.1.len (by omega);have HM:=qh (ai hzb (ai hkd (ai hlm (ai hmn9 (ai hul (HV.o.below hb2))))));have HBX:=qh bb;clear hkm hmn hmn9 hfs hne hb2 hlm e1 bb hzb hkd hL1 hL2 hL3 hL4 hul;go_upto_region 8 with (fail)
     refine ja1 (fun w'=>Below wx.heap.size wx w') [] (by kernel_rfl) ?_;refine tl [(0,[2], .slice (some ⟨b,o,none⟩) n cap),(1,[2], .int .i64 (i:Int)),(2,[3], .pointer (some ⟨b,o+i*2,none⟩)),(3,[5],hrv (e3,e4)),(4,[5],clv ⟨k1,k2,k3,k4⟩)] [_,_,_,_,_] rfl (by kernel_rfl) pk5 (by intros;simp only [tyq,ppq];go_simp) bq0 ?_;simp only [tlq,ppq];refine rd1 5 (by kernel_rfl) rfl (fun K hK=> ?_);go_simp;go_wp2_with (go_at_call 47;(with_reducible refine mo0 (HS.o _) fun w33 hb33 hc33 hf33 _=> ?_))
     have sS33:=qh (bst bq0 hb33);refine hK.out _ _ (fun _=>sS33.o) ?_;clear hK K;refine ja2 (by kernel_rfl) ?_ _;have b33:RowKit.Below wx.heap.size wx w33:=bi;have HBY:=qh (ja0 HBX.o b33);have HVY:=qh (HM.o.2.2.2.2.2.below b33);clear b33 hb33 hc33 hf33 y0 y1 hbl p0 p1 p2 p3 zp q9 hin
     go_upto_if 46 with (fail)
     go_cut [12] (fun v wy=>v=bs kd∧wy=w33)
     case first=>
      have hk:=HM.o.2.1;cases f with
      | false=>subst hk;go_wp2;go_meet;exact ⟨rfl,rfl⟩
      | true=>subst hk;go_wp2;go_meet;exact ⟨rfl,rfl⟩
     case rest=>
      obtain ⟨rfl,rfl⟩:=hcut
      rename World=>wy
      have e0:=ja9 HBY.o HC.o.2.1;have e1:=ja9 HBY.o HC.o.2.2;have hik:=HK.o.2.2.1;have hlm:=HM.o.2.2.1;have hmn:=HM.o.2.2.2.1.1;have hMm:=HM.o.2.2.2.1.2.1;have a1:IntKind.i64.wrap ((n:Int) - 1)=(n:Int) - 1:=by simp [IntKind.wrap,IntKind.bits,IntKind.signed];omega
      have a2:IntKind.i64.wrap ((n:Int) - 1 - (i:Int))=(k:Int):=by simp [IntKind.wrap,IntKind.bits,IntKind.signed];omega
      have a3:IntKind.i64.wrap ((n:Int) - (l:Int))=(M:Int):=by simp [IntKind.wrap,IntKind.bits,IntKind.signed];omega
      have a4:wrap64 ((n:Int) - 1 - (i:Int))=(k:Int):=by unfold wrap64;omega
      have a5:wrap64 ((n:Int) - (l:Int))=(M:Int):=by unfold wrap64;omega
      have a6:wrap64 ((l:Int) - 1)=(n:Int) - 1 - (M:Int):=by unfold wrap64;omega
      have hsz:W.heap.size≤wy.heap.size:=HBY.o.size;have hul:=HM.o.2.2.2.2.1;clear hik hlm hmn hMm;have A6:=qh a6;clear a6;go_upto_region 10 with (fail)
      refine ja1 (fun w'=>w'.cell? ⟨g+1,0,none⟩=some (bs TX)∧w'.cell? ⟨g+1,1,none⟩=some (bs TY)) [] (by kernel_rfl) ?_;have hS0:wy.drew.cell? ⟨g+1,0,none⟩=some (bs TX)∧wy.drew.cell? ⟨g+1,1,none⟩=some (bs TY):=⟨ja9 (bD bR) e0,ja9 (bD bR) e1⟩;refine tk 0 (u9) [] rfl (by kernel_rfl) pk (by rfl) ?_ hS0 ?_
      ·intro w' hS';obtain _:=hS';go_simp
      simp only [ppq];refine tk 1 (bs kd) [] rfl (by kernel_rfl) pk (by rfl) ?_ hS0 ?_
      ·intro w' hS';obtain _:=hS';go_simp
      simp only [ppq];refine tk 2 (.slice (some ⟨b,o,none⟩) n cap) [] rfl (by kernel_rfl) pk (by rfl) ?_ hS0 ?_
      ·intro w' hS';obtain _:=hS';go_simp
      simp only [ppq];refine tk 3 (.int .i64 (n:Int)) [] rfl (by kernel_rfl) pk (by rfl) ?_ hS0 ?_
      ·intro w' hS';obtain _:=hS';go_simp
      simp only [ppq];refine tk 4 (.int .i64 ((n:Int) - 1)) [] rfl (by kernel_rfl) pk (by rfl) ?_ hS0 ?_
      ·intro w' hS';obtain _:=hS';go_simp
      simp only [ppq];refine tk 5 (.int .i64 (i:Int)) [] rfl (by kernel_rfl) pk (by rfl) ?_ hS0 ?_
      ·intro w' hS';obtain _:=hS';go_simp
      simp only [ppq];refine tk 6 (.int .i64 (k:Int)) [] rfl (by kernel_rfl) pk (by rfl) ?_ hS0 ?_
      ·intro w' hS';obtain _:=hS';go_simp
      simp only [ppq];refine tk 7 (sp TX TY) [] rfl (by kernel_rfl) pk (by rfl) ?_ hS0 ?_
      ·intro w' hS';obtain ⟨hS1,hS2⟩:=hS';go_simp
      simp only [ppq];refine tk 8 (bs TZ) [] rfl (by kernel_rfl) pk (by rfl) ?_ hS0 ?_
      ·intro w' hS';obtain _:=hS';go_simp
      simp only [ppq];refine tk 10 (.slice (some ⟨b,o,none⟩) n cap) [] rfl (by kernel_rfl) pk (by rfl) ?_ hS0 ?_
      ·intro w' hS';obtain _:=hS';go_simp
      simp only [ppq];refine tk 11 (.int .i64 (n:Int)) [] rfl (by kernel_rfl) pk (by rfl) ?_ hS0 ?_
      ·intro w' hS';obtain _:=hS';go_simp
      simp only [ppq];refine tk 12 (.int .i64 (l:Int)) [] rfl (by kernel_rfl) pk (by rfl) ?_ hS0 ?_
      ·intro w' hS';obtain _:=hS';go_simp
      simp only [ppq];refine tk 13 (.int .i64 (M:Int)) [] rfl (by kernel_rfl) pk (by rfl) ?_ hS0 ?_
      ·intro w' hS';obtain _:=hS';go_simp
      simp only [ppq];refine tk 14 (sp TX TY) [] rfl (by kernel_rfl) pk (by rfl) ?_ hS0 ?_
      ·intro w' hS';obtain ⟨hS1,hS2⟩:=hS';go_simp
      simp only [ppq];refine tk 15 (bs TZ) [] rfl (by kernel_rfl) pk (by rfl) ?_ hS0 ?_
      ·intro w' hS';obtain _:=hS';go_simp
      simp only [ppq];clear hS0 a1 a2 a3 a4 a5;refine rd1 9 (by kernel_rfl) rfl (fun K hK=> ?_);go_simp;go_wp2_with (go_at_call 48;(with_reducible refine mo0 (HR1.o _) fun w41 hb41 hc41 hf41 _=> ?_))
      have b41:RowKit.Below wy.heap.size wy w41:=bi;refine hK.out _ _ (fun _=>⟨ja9 b41 e0,ja9 b41 e1⟩) ?_;clear hK K;refine rd1 16 (by kernel_rfl) rfl (fun K hK=> ?_);go_simp;go_wp2_with (go_at_call 48;(with_reducible refine mo0 (HR2.o _) fun w42 hb42 hc42 hf42 _=> ?_))
      have b42:RowKit.Below wy.heap.size wy w42:=bi;replace e0:=ja9 b42 e0;replace e1:=ja9 b42 e1;have HB42:=qh (ja0 HBY.o b42);have HV42:=qh (HVY.o.below b42);have hs42:W.heap.size≤w42.heap.size:=Nat.le_trans hsz b42.size;clear hb41 hc41 hf41 hb42 hc42 hf42 b42 b41;refine hK.out _ _ (fun _=>⟨e0,e1⟩) ?_;clear hK K;refine rd1 17 (by kernel_rfl) rfl (fun K hK=> ?_);go_simp;refine hK.out _ _ (fun _=>⟨e0,e1⟩) ?_;clear hK K;refine rd1 18 (by kernel_rfl) rfl (fun K hK=> ?_);go_simp;refine hK.out _ _ (fun _=>⟨ja9 (bA bR) e0,ja9 (bA bR) e1⟩) ?_;clear hK K;refine rd1 19 (by kernel_rfl) rfl (fun K hK=> ?_);rw [if_pos (by rfl)];refine jxK (base:=W.heap.size) (v:=u9) (ps:=us) (x:=(kd,(L1,L2),(L3,L4))) _ _ rfl rfl rfl rfl (HV42.o.below (bA bR)) hul (Nat.le_trans hs42 (by simp)) (fun k u hu=>by simpa [go_sem,zcs] using hu) ?_;intro v5 w5 hV5 hg5 hl5;have zg1:g+1 < W.heap.size:=World.block_lt_of_cell? W _ HC.o.2.1;have bA5:RowKit.Below w42.heap.size w42 (w42.alloc (.cells #[bs kd,bs L1,bs L2,bs L3,bs L4] 68)):=bA bR;have hlt:∀k,u9.ownBlock=some k→W.heap.size≤k:=fun k e=>(World.ownsRow.lt HV42.o.row k e).1
      have HB5:=qh ((ja0 HB42.o bA5).trans (jab hg5 (Nat.le_trans hs42 bA5.size) hlt));have f0:=ja9 HB5.o HC.o.2.1;have f1:=ja9 HB5.o HC.o.2.2;have HV5:=qh hV5;clear hV5 hg5 hl5 bA5 hlt e0 e1;refine hK.out _ _ (fun _=>⟨f0,f1⟩) ?_;clear hK K;refine rd1 20 (by kernel_rfl) rfl (fun K hK=> ?_);go_simp;refine hK.out _ _ (fun _=>⟨f0,f1⟩) ?_;clear hK K;refine ja2 (by kernel_rfl) ?_ _;go_wp2;have a6:=A6.o;have hmn:=HM.o.2.2.2.1.1;have hMm:=HM.o.2.2.2.1.2.1;have hik:=HK.o.2.2.1;refine ⟨⟨M,us++[(kd,(L1,L2),(L3,L4))], ?_,hmn,HM.o.1,HB5.o,by rw [List.length_append];exact HV5.o⟩, ?_⟩
      ·simp [a6]
      ·have:=HM.o.2.2.2.1.2.2;simp [a6,intOf];omega
   ·have e1:(n:Int) - 1 - (k:Int)= -1:=by omega
    rw [e1];obtain rfl:k=n:=by omega
    clear e1;have HV:=qh hV;clear hV;go_wp2;go_meet;exact ⟨us,hZ,hb,HV.o⟩
 case rest=>
  obtain ⟨us,hZ,hb,hV⟩:=hcut;have _:=bm hb;have e0:=ja9 hb HC.o.2.1;have e1:=ja9 hb HC.o.2.2;have zq:g+1 < wc.heap.size:=World.block_lt_of_cell? wc _ e0;have HRn:=qh (fun W=>HR6.o W n (by have:=HN.o;omega))
  have hF:(us++[([111,108,100],(tq (frq x z n),tq (frq y z n)),(TZ,TZ))]).filter (jwz z)=jx8 (us.filter (jwz z)) [111,108,100] ((n:Rat)*x) ((n:Rat)*y) z z z:=by
   rw [←jwW,show jws z z=z by unfold jws;split <;> rfl,HTZ.o];rfl
  obtain ⟨L1,hL1⟩:∃T,tq (frq x z n)=T:=⟨_,rfl⟩;obtain ⟨L2,hL2⟩:∃T,tq (frq y z n)=T:=⟨_,rfl⟩;rw [hL1,hL2] at HRn hF;have hul:us.length≤900:=Nat.le_trans hZ.len HN.o;have hsz:W.heap.size≤wc.heap.size:=hb.size;have HV:=qh hV;have HBC:=qh hb;have HF:=qh (ai hF hZ);clear hF hZ hV hb hL1 hL2;go_upto_region 13 with (first|(go_at_call 48;(with_reducible refine mo0 (HRn.o _) fun w51 hb51 hc51 hf51 _=> ?_))|(at_builtin;refine jww (base:=W.heap.size) (v:=u9) (ps:=us) (x:=([111,108,100],(L1,L2),(TZ,TZ))) rfl _ _ rfl rfl rfl rfl ((HV.o.below hb51).below (bA bR)) (Nat.le_trans hul (by omega)) (Nat.le_trans hsz (Nat.le_trans hb51.size (by simp))) (fun k u hu=>by simpa [go_sem,zcs] using hu) ?_;intro v5 w5 hV5 hg5 hl5))
  have bX:RowKit.Below W.heap.size W w5:=by
   refine Below.trans (ja0 HBC.o (show RowKit.Below wc.heap.size wc _ from ?_)) (jab hg5 ?_ (fun k e=>(World.ownsRow.lt HV.o.row k e).1))
   ·exact bi
   ·exact Nat.le_trans hsz (Nat.le_trans hb51.size (by simp))
  have hl2:(us++[([111,108,100],(L1,L2),(TZ,TZ))]).length=us.length+1:=by simp
  obtain ⟨us2,hus2⟩:∃l,(us++[([111,108,100],(L1,L2),(TZ,TZ))]:List Zn)=l:=⟨_,rfl⟩;rw [←hl2] at hV5;rw [hus2] at hV5 hl2 HF;obtain ⟨A5,c5,e5,hz5⟩:=hV5.znv;subst e5;obtain ⟨N,hN⟩:∃k,us2.length=k:=⟨_,rfl⟩;rw [hN] at hz5 hl2 ⊢;have hN9:N≤901:=by omega
  have HZ5:=qh hz5;have HB5:=qh bX;have HN5:=qh (ai hN9 hN);clear hV5 hg5 hl5 hb51 hc51 hf51 bX hl2 hus2 hz5 hN hN9 e0 e1 zq hul hsz HV;go_wp2
  go_loopw [13,14] (fun v u wr=>∃i:Nat,u= .int .i64 (i:Int)∧i≤N∧RowKit.Below w5.heap.size w5 wr∧OwnZ5 wr w5.heap.size v ((us2.take i).filter (jwz z)).length ((us2.take i).filter (jwz z))) (fun _ u _=>N - (intOf u).toNat)
  case atStart=>exact ⟨0,rfl,Nat.zero_le _,bi,OwnZ5.nil _ _⟩
  case round=>
   obtain ⟨i,rfl,hin,hb,hV⟩:=hrel;have _:=bm hb;have hnn:=HN5.o.1;by_cases hi:i < N
   ·have q0:decide ((i:Int) < (N:Int))=true:=by simp;exact hi
    have q9:decide (i < N)=true:=by simpa using hi
    obtain ⟨b,o,rfl,hbl,hcell⟩:=(HZ5.o.below hb).at_ (by omega);have hxy:=hcell i hi;have hst:=jxL zn0 (show i < us2.length by rw [HN5.o.2];exact hi);obtain ⟨⟨kd,⟨b1,b2⟩,t1,t2⟩,he⟩:∃x,us2.getD i zn0=x:=⟨_,rfl⟩;rw [he] at hxy hst;have y0:=hxy 0 (bs kd) rfl;have y1:=hxy 1 (bs b1) rfl;have y2:=hxy 2 (bs b2) rfl;have y3:=hxy 3 (bs t1) rfl;have y4:=hxy 4 (bs t2) rfl;rw [Nat.add_zero] at y0;have HBR:=qh hb;have HV:=qh hV;have HI:=qh hi;by_cases hk:b1=TZ
    ·have q1:(b1==TZ)=true:=by rw [beq_iff_eq];exact hk
     have q2:(b1 != TZ)=false:=by rw [bne_eq_false_iff_eq];exact hk
     have hf:(us2.take (i+1)).filter (jwz z)=(us2.take i).filter (jwz z):=by
      rw [hst,List.filter_append,List.filter_cons,show jwz z (kd,(b1,b2),t1,t2)=false by unfold jwz;simp [hk,HTZ.o]];simp
     have HFF:=qh hf;clear hcell hxy hst he hb hV hk hf hi hin;go_wp2;exact ⟨⟨i+1,by simp,HI.o,HBR.o,by rw [HFF.o];exact HV.o⟩,by have:=HI.o;simp [intOf];omega⟩
    ·have q1:(b1==TZ)=false:=by rw [beq_eq_false_iff_ne];exact hk
     have q2:(b1 != TZ)=true:=by rw [bne_iff_ne];exact hk
     have hf:(us2.take (i+1)).filter (jwz z)=(us2.take i).filter (jwz z)++[(kd,(b1,b2),t1,t2)]:=by
      rw [hst,List.filter_append,List.filter_cons,show jwz z (kd,(b1,b2),t1,t2)=true by unfold jwz;simp [hk,HTZ.o]];simp
     have HFF:=qh hf;have hul:((us2.take i).filter (jwz z)).length≤100000:=Nat.le_trans (List.length_filter_le _ _) (by rw [List.length_take];omega);have hsz:w5.heap.size≤wr.heap.size:=hb.size;clear hcell hxy hst he hb hV hk hf hi hin;go_wp2_with (at_builtin;refine jww (base:=w5.heap.size) (v:=u13) (ps:=(us2.take i).filter (jwz z)) (x:=(kd,(b1,b2),(t1,t2))) rfl _ _ rfl rfl rfl rfl (HV.o.below (bA bR)) hul (Nat.le_trans hsz (by simp)) (fun k u hu=>by simpa [go_sem,zcs] using hu) ?_;intro v6 w6 hV6 hg6 hl6)
     have bY:RowKit.Below w5.heap.size w5 w6:=by
      refine Below.trans (ja0 HBR.o (show RowKit.Below wr.heap.size wr _ from ?_)) (jab hg6 ?_ (fun k e=>(World.ownsRow.lt HV.o.row k e).1))
      ·exact bA bR
      ·exact Nat.le_trans hsz (by simp)
     exact ⟨⟨i+1,by simp,HI.o,bY,by rw [HFF.o,List.length_append];exact hV6⟩,by have:=HI.o;simp [intOf];omega⟩
   ·have q0:decide (i < N)=false:=by simp;omega
    obtain rfl:i=N:=by omega
    rw [List.take_of_length_le (by rw [HN5.o.2];exact Nat.le_refl _),HF.o.1] at hV;have HV:=qh hV;have HBR:=qh hb;obtain ⟨A7,c7,e7,hz7⟩:=hV.znv;subst e7;have HZ7:=qh hz7;clear hV hb hi hz7;go_wp2;go_ret;exact ⟨A7,c7,_,rfl,HF.o.2.run,HZ7.o,ja0 HB.o (ja0 HB5.o HBR.o)⟩
end
end Go.Proofs.YtonifflnjjcanaaGreatDoor
namespace Go.Proofs.YtonifflnjjcanaaGreatDoor
open Go Go.RowKit

section
variable {hs:List Hr} {c:Clim} {x y z:Rat} {n k m:Nat} {ps qs:List Zn}
theorem ZR.sep (h:ZR hs c x y z n k ps) (h0:0 < k) (h1:k < n):jwK hs c k≠jwK hs c (k - 1):=by
 cases h with
 | nil=>omega
 | run hp hk hm ha hb=>
   rw [ha (k - 1) (by omega) (by omega)];exact hb h1
theorem ZR.det {ps:List Zn} (h:ZR hs c x y z n k ps):∀{qs:List Zn},ZR hs c x y z n k qs→ps=qs:=by
 induction h with
 | nil=>intro qs h;cases h with
   | nil=>rfl
   | run hp hk hm ha hb=>omega
 | @run k m ps hp hk hm ha hb ih=>
   intro qs h;cases h with
   | nil=>omega
   | @run k' _ ps' hp' hk' hm' ha' hb'=>
     have e:k=k':=by
      rcases Nat.lt_trichotomy k k' with h|h|h
      ·exact absurd ((ha k' (by omega) hk').trans (ha (k' - 1) (by omega) (by omega)).symm) (hp'.sep (by omega) (by omega))
      ·exact h
      ·exact absurd ((ha' k (by omega) hk).trans (ha' (k - 1) (by omega) (by omega)).symm) (hp.sep (by omega) (by omega))
     subst e;rw [ih hp']
theorem ZR.one (h:ZR hs c x y z n n ps) (h0:0 < n) (ha:∀j,j < n→jwK hs c j=true):ps=jx8 [] (jxn true) (((0:Nat):Rat)*x) (((0:Nat):Rat)*y) ((n:Rat)*x) ((n:Rat)*y) z:=by
 have e:jwK hs c 0=true:=ha 0 h0;have:=ZR.run (n:=n) (k:=0) (m:=n) (hs:=hs) (c:=c) (x:=x) (y:=y) (z:=z) (ps:=[]) ZR.nil h0 (Nat.le_refl _) (fun j _ h2=>(ha j h2).trans e.symm) (fun h=>absurd h (Nat.lt_irrefl _));rw [e] at this;exact ZR.det h this
end
end Go.Proofs.YtonifflnjjcanaaGreatDoor
