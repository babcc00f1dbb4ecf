/- Parts. -/
import Derived.Test.YtonifflnjjcanaaGreatDoorArG
import Derived.Test.YtonifflnjjcanaaGreatDoorYkG
set_option linter.all false
set_option maxRecDepth 100000
set_option maxHeartbeats 8000000
namespace Go.Proofs.YtonifflnjjcanaaGreatDoor
open Go Go.RowKit Go.Sort Go.Proofs.Tryz

def jwK (hs:List Hr) (c:Clim) (k:Nat):Bool:=jhG (hs.getD (hs.length - 1 - k) (0,0)) c
def jxn (f:Bool):List UInt8:=if f then [103,111,111,100] else [98,97,100]
inductive ZR (hs:List Hr) (c:Clim) (x y z:Rat) (n:Nat):Nat→List Zn→Prop
 | nil:ZR hs c x y z n 0 []
 | run {k m:Nat} {ps:List Zn}:ZR hs c x y z n k ps→k < m→m≤n→(∀j,k≤j→j < m→jwK hs c j=jwK hs c k)→(m < n→jwK hs c m≠jwK hs c k)→
    ZR hs c x y z n m (jx8 ps (jxn (jwK hs c k)) ((k:Rat)*x) ((k:Rat)*y) ((m:Rat)*x) ((m:Rat)*y) z)
theorem jwJ (m:Nat) (x:Rat):(m:Rat)*x+x=((m+1:Nat):Rat)*x:=by
 rw [show ((m+1:Nat):Rat)=(m:Rat)+1 by push_cast;rfl];grind
theorem jxF (ps:List Zn) (kd:List UInt8) (a1 a2 t1 t2 z:Rat):(jx8 ps kd a1 a2 t1 t2 z).length≤ps.length+1:=by
 unfold jx8;split <;> simp
theorem ZR.len {hs:List Hr} {c:Clim} {x y z:Rat} {n k:Nat} {ps:List Zn} (h:ZR hs c x y z n k ps):ps.length≤k∧k≤n:=by
 induction h with
 | nil=>exact ⟨by simp,by omega⟩
 | run h hk hm _ _ ih=>exact ⟨Nat.le_trans (jxF _ _ _ _ _ _ _) (by omega),hm⟩
theorem OwnZ5.znv {w:World} {base:Nat} {v:Value} {ps:List Zn} (h:OwnZ5 w base v ps.length ps):∃A c,v= .slice A ps.length c∧Znv w A ps.length ps:=by
 by_cases h0:0 < ps.length
 ·exact h.row.pv rfl h0
 ·obtain ⟨A,c,e⟩:=h.row.slice;exact ⟨A,c,e,rfl,fun h=>absurd h h0⟩
section
variable {w:World} {A:Option Addr} {n cap:Nat} {hs:List Hr} {c:Clim} {a b d:List UInt8}
theorem jxX {K:Int} (hE:Env w) (h:Hv6 w A n hs) (hn:n≤100000) (hla:a.length < 4294967281) (hlb:b.length < 4294967281) (hld:d.length < 4294967281) (hK:jxo hs c a b d=K) (h0:K≠0):
  Calls prog 8 #[.slice A n cap,clv c,sp a b,bs d] w fun e w'=>e= .returned (.tuple #[.slice none 0 0, .int .i64 K])∧Below w.heap.size w w':=by
 have HAI:=qh (fun W (hb:Below w.heap.size w W)=>jwx (cap:=cap) (hE.below hb) (h.below hb) hn hla hlb hld rfl rfl rfl hK);have q1:(K != 0)=true:=by rw [bne_iff_ne];exact h0
 obtain ⟨k1,k2,k3,k4⟩:=c;clear hE h hn hla hlb hld hK h0;go_enter func8,ntmps8;go_wp2_with (go_at_call 29;(with_reducible refine (HAI.o _ bi).mono ?_);rintro e1 w1 ⟨s1,A1,n1,c1,t1,B1,m1,d1,s2,A2,n2,c2,t2,B2,m2,d2,s3,A3,n3,c3,t3,B3,m3,d3,rfl,hA1,hb1⟩;obtain ⟨hc1,hf1,_⟩:=bc0 hb1)
 go_ret2;exact ⟨rfl,bi⟩
set_option maxHeartbeats 32000000 in
theorem jyj {x y z:Rat} (hE:Env w) (h:Hv6 w A n hs) (hn:n≤900) (hla:a.length < 4294967281) (hlb:b.length < 4294967281) (hld:d.length < 4294967281) (hx:numQ a=x) (hy:numQ b=y) (hz:numQ d=z) (hK:jxo hs c a b d=0) (hW:∀k,k≤n→Wr (frq x z k)∧Wr (frq y z k)) (hWz:Wr z):
  Calls prog 8 #[.slice A n cap,clv c,sp a b,bs d] w fun e w'=>∃A' c' ps,e= .returned (.tuple #[.slice A' (jx8 ps [111,108,100] ((n:Rat)*x) ((n:Rat)*y) z z z).length c', .int .i64 0])∧ZR hs c x y z n n ps∧Znv w' A' (jx8 ps [111,108,100] ((n:Rat)*x) ((n:Rat)*y) z z z).length (jx8 ps [111,108,100] ((n:Rat)*x) ((n:Rat)*y) z z z)∧Below w.heap.size w w':=by
 have ho:=jx5 hK;have HAI:=qh (fun W (hb:Below w.heap.size w W)=>jwx (cap:=cap) (hE.below hb) (h.below hb) (by omega) hla hlb hld hx hy hz hK);have HH:=qh (fun W (hb:Below w.heap.size w W)=>h.below hb);have HE:=qh hE;have HW:=qh (ai hW hWz);have HN:=qh hn;have HO:=qh (ai (hx ▸ ho.na.sz) (ai (hy ▸ ho.nb.sz) (ai (hz ▸ ho.nd.sz) (ai (hx ▸ ho.low) (ai (hy ▸ (Rat.le_trans ho.low ho.ord)) (hz ▸ ho.pos))))));have HF0:=qh (show ((0:Int):Rat)=0 from rfl);have HR0:=qh (show R64 0 by constructor <;> decide);obtain ⟨k1,k2,k3,k4⟩:=c;clear hE h hn hla hlb hld hx hy hz hK hW hWz ho;go_enter func8,ntmps8;go_upto_region 4 with (go_at_call 29;(with_reducible refine (HAI.o _ bi).mono ?_);rintro e1 w1 ⟨s1,A1,n1,c1,t1,B1,m1,d1,s2,A2,n2,c2,t2,B2,m2,d2,s3,A3,n3,c3,t3,B3,m3,d3,rfl,hA1,hb1⟩;obtain ⟨hc1,hf1,_⟩:=bc0 hb1)
 obtain ⟨U,gs,gd,gc,hU,hgs,hgd,hgc,bU,hcl,hsp,hfc,kx,ky,kz⟩:=jyB (ja0 (bA bR) hb1) (hA1 trivial);simp only [hU,hgd];simp only [hgs,hgc];have HBU:=qh bU;have hgd:=hfc.lt;obtain ⟨B,hB⟩:∃B,U.heap.size=B:=⟨_,rfl⟩;rw [hB] at hgd;have HX:=qh (ai kx (ai ky kz));have HC:=qh (ai hcl (ai hsp (ai hfc (ai hgd hB))));clear hA1 bU kx ky kz hcl hsp hfc hU hgs hgc hgd hb1 hc1 hf1 HAI;go_upto_region 6 with (first|(have _:=hr11;(go_at_call 36;(with_reducible refine mf0 (jes HF0.o HR0.o) fun w12 s12 A12 n12 c12 t12 B12 m12 d12 hr12 hq12 hb12 hc12 hf12 _=> ?_)))|(go_at_call 36;(with_reducible refine mf0 (jes HF0.o HR0.o) fun w11 s11 A11 n11 c11 t11 B11 m11 d11 hr11 hq11 hb11 hc11 hf11 _=> ?_)))
 obtain ⟨W,hW⟩:∃W,(w12.alloc (.cells #[.int .i64 s11, .slice A11 n11 c11, .int .i64 t11, .slice B11 m11 d11, .int .i64 s12, .slice A12 n12 c12, .int .i64 t12, .slice B12 m12 d12] 85))=W:=⟨_,rfl⟩;have b12:RowKit.Below w12.heap.size w12 W:=by rw [←hW];exact bA bR
 have hD0:DBox W w12.heap.size (((s11,A11,n11,c11),(t11,B11,m11,d11)),((s12,A12,n12,c12),(t12,B12,m12,d12))):=by rw [←hW];exact DBox.made w12 _ _ _ _ _ _ _ _ _ _ _ _ _ _ _ _ _
 have hp1:RepF W s11 A11 n11 c11 t11 B11 m11 d11 0:=RepF.below (w:=w12) (by constructor <;> (with_reducible repeat first|assumption|apply rZ|refine rP ?_ rfl (by simp [go_sem,hc12]))) b12;have hp2:RepF W s12 A12 n12 c12 t12 B12 m12 d12 0:=RepF.below (w:=w12) ⟨hr12,hq12⟩ b12;have bO:RowKit.Below (U.alloc (.cells #[.slice none 0 0] 38)).heap.size (U.alloc (.cells #[.slice none 0 0] 38)) W:=ja0 bi b12;have bV:RowKit.Below U.heap.size U W:=ja0 (bA bR) bO;have hO0:=(OBox.made U 38).below bO
 have hga:B < w12.heap.size:=by
  have h1:=hb11.size;have h2:=hb12.size;simp at h1;omega
 simp only [hW];rw [hB] at hO0;obtain ⟨ga,hgga⟩:∃g,w12.heap.size=g:=⟨_,rfl⟩;simp only [hgga] at hD0 hga ⊢;have hx0:((0:Nat):Rat)*x=0:=Rat.zero_mul x;have hy0:((0:Nat):Rat)*y=0:=Rat.zero_mul y;rw [←hx0] at hp1;rw [←hy0] at hp2;have HST:=qh (ai hD0 (ai (ai hp1 hp2) (ai bV hO0)));have HG:=qh hga;clear hW b12 hgga hb11 hb12 hc11 hc12 hf11 hf12 hr11 hq11 hr12 hq12 hx0 hy0 hD0 hp1 hp2 bV bO hO0;go_wp2
 go_loopw [16] (fun u wr=>∃(k:Nat) (ps:List Zn) (v:Value) (q:PT),u= .int .i64 ((n:Int) - 1 - (k:Int))∧k≤n∧RowKit.Below U.heap.size U wr∧ZR hs ⟨k1,k2,k3,k4⟩ x y z n k ps∧DBox wr ga q∧jwy wr q ((k:Rat)*x,(k:Rat)*y)∧OBox wr B v∧OwnZ5 wr B v ps.length ps∧(∀g,v.ownBlock=some g→g≠ga∧g≠B)) (fun u _=>(intOf u+1).toNat)
 case atStart=>exact ⟨0,[],_,_,by have:=HN.o;simp;unfold wrap64;omega,Nat.zero_le _,HST.o.2.2.1,ZR.nil,HST.o.1,HST.o.2.1,HST.o.2.2.2,OwnZ5.nil _ _,fun g h=>by cases h⟩
 case round=>
  obtain ⟨k,ps,v,q,rfl,hkn,hb,hZR,hD,hR,hO,hV,hne⟩:=hrel;have _:=bm hb;have hnn:=HN.o;by_cases hi:k < n
  ·obtain ⟨i,hik⟩:∃i:Nat,n=i+1+k:=⟨n - 1 - k,by omega⟩;have e1:(n:Int) - 1 - (k:Int)=(i:Int):=by omega
   rw [e1];have hin:i < n:=by omega
   have q9:decide (i < n)=true:=by simpa using hin
   have hHV:=HH.o wr (ja0 HBU.o hb);obtain ⟨b,o,rfl,hbl,hcell⟩:=hHV.at_ (by omega);have hlen:=hHV.len;have hxy:=hcell i (by omega);obtain ⟨⟨e3,e4⟩,he⟩:∃x,hs.getD i (0,0)=x:=⟨_,rfl⟩;rw [he] at hxy;obtain ⟨y0,y1⟩:=hxy;dsimp only at y0 y1;obtain ⟨f,hf⟩:∃f,jhG (e3,e4) ⟨k1,k2,k3,k4⟩=f:=⟨_,rfl⟩
   have hend:jwK hs ⟨k1,k2,k3,k4⟩ k=f:=by
    unfold jwK;rw [show hs.length - 1 - k=i by omega,he,hf]
   have HS:=qh (fun W=>jwN (w:=W) hf);have HK:=qh (ai hend (ai hZR (ai hne (ai hik hlen))));have HV:=qh (ai hO hV);have HR:=qh (ai hD hR);have HBR:=qh hb;obtain ⟨⟨⟨s4,A4,n4,c4⟩,t4,B4,m4,d4⟩,⟨⟨s5,A5,n5,c5⟩,t5,B5,m5,d5⟩⟩:=q;obtain ⟨v0,v1,v2,v3,v4,v5,v6,v7,vf⟩:=hD.sc;dsimp only at v0 v1 v2 v3 v4 v5 v6 v7;have zv:ga < wr.heap.size:=hD.lt;obtain ⟨hcc,_⟩:=HC.o;have p0:=ja9 hb hcc.1;have p1:=ja9 hb hcc.2.1;have p2:=ja9 hb hcc.2.2.1;have p3:=ja9 hb hcc.2.2.2;have zp:gc < wr.heap.size:=World.block_lt_of_cell? wr _ p0;have _:Sl ga wr.heap.size:=⟨zv⟩;have _:Sl gc wr.heap.size:=⟨zp⟩;clear hb hZR hD hR hO hV hne hHV hcell he hf hend hlen hkn hi e1 vf hcc hik;go_upto_region 9 with (fail)
   refine ja1 (fun w'=>Below wr.heap.size wr w') [] (by kernel_rfl) ?_;refine tl [(0,[2], .slice (some ⟨b,o,none⟩) n cap),(1,[2], .int .i64 (i:Int)),(2,[3], .pointer (some ⟨b,o+i*2,none⟩)),(3,[5],hrv (e3,e4)),(4,[5],clv ⟨k1,k2,k3,k4⟩)] [_,_,_,_,_] rfl (by kernel_rfl) pk5 (by intros;simp only [tyq,ppq];go_simp) bq0 ?_;simp only [tlq,ppq];refine rd1 5 (by kernel_rfl) rfl (fun K hK=> ?_);go_simp;go_wp2_with (go_at_call 40;(with_reducible refine mo0 (HS.o _) fun w21 hb21 hc21 hf21 _=> ?_))
   have sS21:=qh (bst bq0 hb21);refine hK.out _ _ (fun _=>sS21.o) ?_;clear hK K;refine rd1 6 (by kernel_rfl) rfl (fun K hK=> ?_);go_simp;refine hK.out _ _ (fun _=>bi) ?_;clear hK K;refine ja2 (by kernel_rfl) ?_ _;have hy21:ga < w21.heap.size:=Nat.lt_of_lt_of_le zv hb21.size
   go_upto_block 2 with (fail)
   obtain ⟨X,hX⟩:∃X,(w21.alloc (.cells #[.int .i64 s4, .slice A4 n4 c4, .int .i64 t4, .slice B4 m4 d4, .int .i64 s5, .slice A5 n5 c5, .int .i64 t5, .slice B5 m5 d5] 85))=X:=⟨_,rfl⟩;have bX:RowKit.Below wr.heap.size wr X:=by rw [←hX];exact bi
   have hDX:DBox X w21.heap.size (((s4,A4,n4,c4),(t4,B4,m4,d4)),((s5,A5,n5,c5),(t5,B5,m5,d5))):=by rw [←hX];exact DBox.made w21 _ _ _ _ _ _ _ _ _ _ _ _ _ _ _ _ _
   have hRX:=jwy.below HR.o.2 bX;have hgt:wr.heap.size≤w21.heap.size:=sS21.o.size;simp only [hX];obtain ⟨gt,hgtt⟩:∃g,w21.heap.size=g:=⟨_,rfl⟩;simp only [hgtt] at hDX hgt ⊢;have HX2:=qh (ai bX (ai hDX hRX));have HGT:=qh hgt;clear bX hDX hRX hX hgtt hgt hb21 hc21 hf21 sS21 hy21 y0 y1 hbl q9 v0 v1 v2 v3 v4 v5 v6 v7 zv p0 p1 p2 p3 zp hin;obtain ⟨wo,hwo⟩:∃W,W=wr:=⟨_,rfl⟩;subst hwo
   go_cut [16] (fun u wx=>∃(m:Nat) (q:PT),u= .int .i64 ((n:Int) - 1 - (m:Int))∧k < m∧m≤n∧(∀j,k≤j→j < m→jwK hs ⟨k1,k2,k3,k4⟩ j=f)∧(m < n→jwK hs ⟨k1,k2,k3,k4⟩ m≠f)∧RowKit.Below wo.heap.size wo wx∧DBox wx gt q∧jwy wx q ((m:Rat)*x,(m:Rat)*y))
   case first=>
    go_wp2
    go_loopw [16] (fun u wx=>∃(m:Nat) (q:PT),u= .int .i64 ((n:Int) - 1 - (m:Int))∧k≤m∧m≤n∧(∀j,k≤j→j < m→jwK hs ⟨k1,k2,k3,k4⟩ j=f)∧RowKit.Below wo.heap.size wo wx∧DBox wx gt q∧jwy wx q ((m:Rat)*x,(m:Rat)*y)) (fun u _=>(intOf u+1).toNat)
    case atStart=>exact ⟨k,_,by have:=HK.o.2.2.2.1;congr 1;omega,Nat.le_refl _,by have:=HK.o.2.2.2.1;omega,fun j h1 h2=>by omega,HX2.o.1,HX2.o.2.1,HX2.o.2.2⟩
    case round=>
     obtain ⟨m,q,rfl,hkm,hmn,hfs,hb2,hD2,hR2⟩:=hrel;have _:=bm hb2;have HFS:=qh (ai hfs (ai hkm hmn));have HR2:=qh (ai hD2 hR2);have HB2:=qh hb2;obtain ⟨⟨⟨s6,A6,n6,c6⟩,t6,B6,m6,d6⟩,⟨⟨s7,A7,n7,c7⟩,t7,B7,m7,d7⟩⟩:=q;obtain ⟨v0,v1,v2,v3,v4,v5,v6,v7,vf⟩:=hD2.sc;dsimp only at v0 v1 v2 v3 v4 v5 v6 v7;have zv:gt < wr.heap.size:=hD2.lt;by_cases hm:m < n
     ·obtain ⟨l,hlm⟩:∃l:Nat,n=l+1+m:=⟨n - 1 - m,by omega⟩;have e1:(n:Int) - 1 - (m:Int)=(l:Int):=by omega
      rw [e1];have hin:l < n:=by omega
      have q9:decide (l < n)=true:=by simpa using hin
      have q8:decide ((0:Int)≤(l:Int))=true:=by simp
      have bb:=ja0 HBR.o hb2;have hHV:=HH.o wr (ja0 HBU.o bb);obtain ⟨b',o',e,hbl,hcell⟩:=hHV.at_ (by omega);cases e
      have hlen:=hHV.len;have hxy:=hcell l (by omega);obtain ⟨⟨e5,e6⟩,he⟩:∃x,hs.getD l (0,0)=x:=⟨_,rfl⟩;rw [he] at hxy;obtain ⟨y0,y1⟩:=hxy;dsimp only at y0 y1;obtain ⟨f2,hf⟩:∃f,jhG (e5,e6) ⟨k1,k2,k3,k4⟩=f:=⟨_,rfl⟩
      have hend:jwK hs ⟨k1,k2,k3,k4⟩ m=f2:=by
       unfold jwK;rw [show hs.length - 1 - m=l by omega,he,hf]
      have HS2:=qh (fun W=>jwN (w:=W) hf);have HK2:=qh (ai hend hlm);obtain ⟨hcc,_⟩:=HC.o;have p0:=ja9 bb hcc.1;have p1:=ja9 bb hcc.2.1;have p2:=ja9 bb hcc.2.2.1;have p3:=ja9 bb hcc.2.2.2;have zp:gc < wr.heap.size:=World.block_lt_of_cell? wr _ p0;clear hfs hkm hmn hb2 hD2 hR2 hm hlm e1 bb hHV hcell hlen he hf hend hcc vf;go_upto_region 11 with (fail)
      refine ja1 (fun w'=>Below wr.heap.size wr w') [] (by kernel_rfl) ?_;refine tl [(0,[1], .int .i64 (l:Int)),(1,[2], .bool true),(2,[11], .bool true),(3,[5], .slice (some ⟨b,o,none⟩) n cap),(4,[5], .int .i64 (l:Int)),(5,[6], .pointer (some ⟨b,o+l*2,none⟩)),(6,[8],hrv (e5,e6)),(7,[8],clv ⟨k1,k2,k3,k4⟩)] [_,_,_,_,_,_,_,_] rfl (by kernel_rfl) pk5 (by intros;simp only [tyq,ppq];go_simp) bq0 ?_;simp only [tlq,ppq];refine tb 9 (.bool f) [10] rfl (by kernel_rfl) pk rfl (by intros;go_simp) bq0 ?_;simp only [ppq];refine rd1 8 (by kernel_rfl) rfl (fun K hK=> ?_);go_simp;go_wp2_with (go_at_call 40;(with_reducible refine mo0 (HS2.o _) fun w31 hb31 hc31 hf31 _=> ?_))
      have sS31:=qh (bst bq0 hb31);refine hK.out _ _ (fun _=>sS31.o) ?_;clear hK K;refine rd1 10 (by kernel_rfl) rfl (fun K hK=> ?_);go_simp;refine hK.out _ _ (fun _=>bi) ?_;clear hK K;refine rd1 11 (by kernel_rfl) rfl (fun K hK=> ?_);go_simp;refine hK.out _ _ (fun _=>bi) ?_;clear hK K;refine ja2 (by kernel_rfl) ?_ _;have b31:RowKit.Below wr.heap.size wr w31:=bi;by_cases hff:f2=f
      ·subst hff;have q7:(f2==f2)=true:=by simp
       simp only [q7];have D31:=HR2.o.1.below b31;have R31:=jwy.below HR2.o.2 b31;have B31:RowKit.Below wo.heap.size wo w31:=ja0 HB2.o b31;clear v0 v1 v2 v3 v4 v5 v6 v7 zv y0 y1 p0 p1 p2 p3 zp q9 q8 hin hbl;obtain ⟨v0,v1,v2,v3,v4,v5,v6,v7,vf⟩:=D31.sc;dsimp only at v0 v1 v2 v3 v4 v5 v6 v7;have vf0:=vf 0;have vf1:=vf 1;have vf2:=vf 2;have vf3:=vf 3;have vf4:=vf 4;have vf5:=vf 5;have vf6:=vf 6;have vf7:=vf 7;have zv:gt < w31.heap.size:=D31.lt;have bU31:RowKit.Below U.heap.size U w31:=ja0 HBR.o B31;have D32:=HC.o.2.1.below bU31;obtain ⟨r0,r1,r2,r3,r4,r5,r6,r7,_⟩:=D32.sc;dsimp only at r0 r1 r2 r3 r4 r5 r6 r7;have zr:gs < w31.heap.size:=D32.lt;have _:Sl gt w31.heap.size:=⟨zv⟩;have _:Sl gs w31.heap.size:=⟨zr⟩;have HS31:=qh (ai (RepF.below HX.o.1 bU31) (RepF.below HX.o.2.1 bU31));have HR31:=qh (ai D31 R31);have HB31:=qh B31;have hm9:m≤1000:=Nat.le_trans HFS.o.2.2 (Nat.le_trans hnn (by omega));have HY:=qh (ai (jwJ m x) (jwJ m y));have HZ9:=qh (ai ((jwH hm9).mul HO.o.1) ((jwH hm9).mul HO.o.2.1));clear D31 R31 B31 vf bU31 D32 b31 hb31 hc31 hf31 hm9;go_upto_region 13 with ((go_at_call 41;(with_reducible refine (jxB (p:=1+600) (q:=600) (RepF.below HR31.o.2.1 bi) (RepF.below HR31.o.2.2 bi) (RepF.below HS31.o.1 bi) (RepF.below HS31.o.2 bi) HZ9.o.1 HZ9.o.2 HO.o.1 HO.o.2.1 (by omega) HY.o.1 HY.o.2).mono ?_);rintro e32 w32 ⟨s32,A32,n32,c32,t32,B32,m32,d32,u32,C32,i32,j32,v32,D32,o32,l32,rfl,⟨⟨hr32,hq32⟩,hu32,hv32⟩,hb32⟩;obtain ⟨hc32,hf32,_⟩:=bc0 hb32);have y32_0:=zlt (gt) hb32;have y32_1:=zlt (gs) hb32)
       have m2:wrap64 ((l:Int) - 1)=(n:Int) - 1 - ((m+1:Nat):Int):=by have:=HK2.o.2;unfold wrap64;omega
       have hm1:m+1≤n:=by have:=HK2.o.2;omega
       have hml:(l:Int)=(n:Int) - 1 - (m:Int):=by have:=HK2.o.2;omega
       have b32:RowKit.Below w31.heap.size w31 w32:=bi;have D33:=(HR31.o.1.below b32);have R33:=jwy.grown (q:=(((s32,A32,n32,c32),(t32,B32,m32,d32)),((u32,C32,i32,j32),(v32,D32,o32,l32)))) (x:=(((m+1:Nat):Rat)*x,((m+1:Nat):Rat)*y)) ⟨⟨hr32,hq32⟩,⟨hu32,hv32⟩⟩ (jwD (g:=gt) (s:=s32) (A:=A32) (n:=n32) (c:=c32) (t:=t32) (B:=B32) (m:=m32) (d:=d32) (u:=u32) (C:=C32) (i:=i32) (j:=j32) (v:=v32) (D:=D32) (o:=o32) (l:=l32)) (fun k e=>by cases e;exact D33.nou);have B33:=jyk (s:=s32) (A:=A32) (n:=n32) (c:=c32) (t:=t32) (B:=B32) (m:=m32) (d:=d32) (u:=u32) (C:=C32) (i:=i32) (j:=j32) (v:=v32) (D:=D32) (o:=o32) (l:=l32) (ja0 HB31.o b32) HGT.o;have D34:=D33.setR (s:=s32) (A:=A32) (n:=n32) (c:=c32) (t:=t32) (B:=B32) (m:=m32) (d:=d32) (u:=u32) (C:=C32) (i:=i32) (j:=j32) (v:=v32) (D:=D32) (o:=o32) (l:=l32)
       have hfj:∀j,k≤j→j < m+1→jwK hs ⟨k1,k2,k3,k4⟩ j=f2:=fun j h1 h2=>by
        by_cases e:j=m
        ·rw [e];exact HK2.o.1
        ·exact HFS.o.1 j h1 (by omega)
       go_wp2
       go_roundw
       case rel=>exact ⟨m+1,_,by simp [m2];omega,Nat.le_trans HFS.o.2.1 (by omega),hm1,hfj,B33,D34,R33⟩
       case measure=>simp [m2,intOf];omega
      ·have q7:(f2==f)=false:=by rw [beq_eq_false_iff_ne];exact hff
       simp only [q7];have hne:k≠m∧(m < n→jwK hs ⟨k1,k2,k3,k4⟩ m≠f):=⟨fun e=>hff (by rw [←HK2.o.1,←HK.o.1,e]),fun _ e=>hff (HK2.o.1.symm.trans e)⟩;have HNE:=qh hne;clear hff q7 y0 y1 p0 p1 p2 p3 zp q9 q8 hin hbl HS2 v0 v1 v2 v3 v4 v5 v6 v7 zv hne;go_wp2;go_meet;exact ⟨m,_,by have:=HK2.o.2;congr 1;omega,by have:=HNE.o.1;have:=HFS.o.2.1;omega,HFS.o.2.2,HFS.o.1,HNE.o.2,ja0 HB2.o b31,HR2.o.1.below b31,jwy.below HR2.o.2 b31⟩
     ·have hmn9:m=n:=by omega
      have hkm9:k < m:=by have:=HK.o.2.2.2.1;omega
      have e1:(n:Int) - 1 - (m:Int)= -1:=by omega
      rw [e1];have HMN:=qh (ai hmn9 hkm9);clear hfs hkm hmn hb2 hD2 hR2 hm hmn9 hkm9 e1 vf v0 v1 v2 v3 v4 v5 v6 v7 zv;go_upto_region 11 with (fail)
      go_quiet (fail)
      go_wp2;go_meet;exact ⟨m,_,by have:=HMN.o.1;congr 1;omega,HMN.o.2,HFS.o.2.2,HFS.o.1,fun h=>absurd HMN.o.1 (by omega),ja0 HB2.o bi,HR2.o.1.below bi,jwy.below HR2.o.2 bi⟩
   case rest=>
    rename World=>wx
    obtain ⟨m,qm,rfl,hkm,hmn,hfs,hne,hb2,hD2,hR2⟩:=hcut;have _:=bm hb2;have bUx:RowKit.Below U.heap.size U wx:=ja0 HBR.o hb2;have hBx:B≤wx.heap.size:=by rw [←HC.o.2.2.2.2];exact bUx.size
    have hk9:k≤1000:=by have:=HN.o;omega
    have hm9:m≤1000:=by have:=HN.o;omega
    have HZA:=qh (jya (w:=wx) (B:=B) (ga:=ga) (gd:=gd) (go:=B) (kd:=jxn f) (z:=z) (a1:=(k:Rat)*x) (a2:=(k:Rat)*y) (x1:=(m:Rat)*x) (x2:=(m:Rat)*y)
     (fun V h=>HE.o.below (ja0 HBU.o (bUx.trans (by rw [HC.o.2.2.2.2];exact h))))
     (fun V h=>ai (HC.o.2.2.1.below (bUx.trans (by rw [HC.o.2.2.2.2];exact h))) (RepF.below HX.o.2.2 (bUx.trans (by rw [HC.o.2.2.2.2];exact h))))
     (HR.o.1.below hb2) (jwy.below HR.o.2 hb2) hR2.1 hR2.2 (HV.o.1.below hb2) (HV.o.2.below hb2)
     hBx (Nat.le_of_lt HG.o) (Nat.le_refl _) HC.o.2.2.2.1 (Nat.ne_of_gt HG.o) HK.o.2.2.1
     (((jwH hk9).mul HO.o.1).mono (by omega)) (((jwH hk9).mul HO.o.2.1).mono (by omega)) (((jwH hm9).mul HO.o.1).mono (by omega)) (((jwH hm9).mul HO.o.2.1).mono (by omega)) (HO.o.2.2.1.mono (by omega)) (Nat.le_trans HK.o.2.1.len.1 hk9)
     (HW.o.1 k (by omega)).1 (HW.o.1 k (by omega)).2 (HW.o.1 m hmn).1 (HW.o.1 m hmn).2)
    have hrun:=ZR.run HK.o.2.1 hkm hmn (fun j h1 h2=>(hfs j h1 h2).trans HK.o.1.symm) (fun h e=>hne h (e.trans HK.o.1));rw [HK.o.1] at hrun;have HM:=qh (ai hkm (ai hmn (ai bUx hrun)));obtain ⟨⟨⟨s6,A6,n6,c6⟩,t6,B6,m6,d6⟩,⟨⟨s7,A7,n7,c7⟩,t7,B7,m7,d7⟩⟩:=qm;obtain ⟨v0,v1,v2,v3,v4,v5,v6,v7,_⟩:=hD2.sc;dsimp only at v0 v1 v2 v3 v4 v5 v6 v7;have zv:gt < wx.heap.size:=hD2.lt;obtain ⟨kd,hkd⟩:∃t,jxn f=t:=⟨_,rfl⟩;rw [hkd] at HZA;have HKD:=qh hkd;clear hkm hmn hfs hne hb2 hD2 hR2 bUx hBx hk9 hm9 hrun hkd
    go_upto_if 67 with (fail)
    go_cut [19] (fun v wy=>v=bs kd∧wy=wx)
    case first=>
     have hk:=HKD.o;cases f with
     | false=>subst hk;go_wp2;go_meet;exact ⟨rfl,rfl⟩
     | true=>subst hk;go_wp2;go_meet;exact ⟨rfl,rfl⟩
    case rest=>
     obtain ⟨rfl,rfl⟩:=hcut;go_wp2_with (go_at_call 37;(with_reducible refine HZA.o.mono ?_);rintro e41 w41 ⟨v41,q41,rfl,hD41,hR41,hO41,hZ41,hb41,hv41⟩)
     have hik:=HK.o.2.2.2.1;have hkm:=HM.o.1;have bU41:RowKit.Below U.heap.size U w41:=HM.o.2.2.1.trans (by rw [HC.o.2.2.2.2];exact hb41);exact ⟨⟨m,_,v41,q41,rfl,HM.o.2.1,bU41,by rw [HKD.o] at HM;exact HM.o.2.2.2,hD41,hR41,hO41,hZ41,hv41⟩,by simp [intOf];omega⟩
  ·have e1:(n:Int) - 1 - (k:Int)= -1:=by omega
   rw [e1];have hkn9:k=n:=by omega
   have hk9:k≤1000:=by omega
   have HKN:=qh (ai hkn9 hZR);have bUR:=hb;have hBU9:=HC.o.2.2.2.2;have hBwr:B≤wr.heap.size:=by rw [←hBU9];exact bUR.size
   have HZA:=qh (fun W (hW:RowKit.Below wr.heap.size wr W)=>jya (w:=W) (B:=B) (ga:=ga) (gd:=gd) (go:=B) (kd:=[111,108,100]) (z:=z) (qa:=_) (qd:=_) (a1:=(k:Rat)*x) (a2:=(k:Rat)*y) (x1:=z) (x2:=z)
    (fun V h=>HE.o.below (ja0 HBU.o ((ja0 bUR hW).trans (by rw [hBU9];exact h))))
    (fun V h=>ai (HC.o.2.2.1.below ((ja0 bUR hW).trans (by rw [hBU9];exact h))) (RepF.below HX.o.2.2 ((ja0 bUR hW).trans (by rw [hBU9];exact h))))
    (hD.below hW) (jwy.below hR hW) (RepF.below HX.o.2.2 (ja0 bUR hW)) (RepF.below HX.o.2.2 (ja0 bUR hW)) (hO.below hW) (hV.below hW)
    (Nat.le_trans hBwr hW.size) (Nat.le_of_lt HG.o) (Nat.le_refl _) HC.o.2.2.2.1 (Nat.ne_of_gt HG.o) hne
    (((jwH hk9).mul HO.o.1).mono (by omega)) (((jwH hk9).mul HO.o.2.1).mono (by omega)) (HO.o.2.2.1.mono (by omega)) (HO.o.2.2.1.mono (by omega)) (HO.o.2.2.1.mono (by omega)) (Nat.le_trans hZR.len.1 hk9)
    (HW.o.1 k hkn).1 (HW.o.1 k hkn).2 (by unfold jws;split <;> exact HW.o.2) (by unfold jws;split <;> exact HW.o.2))
   obtain ⟨r0,r1,r2,r3,rf⟩:=HC.o.2.2.1.below bUR;dsimp only at r0 r1 r2 r3;have zr:gd < wr.heap.size:=World.block_lt_of_cell? wr _ r0;have HBR:=qh hb;clear hb hZR hD hR hO hV hne hkn hi e1 hkn9 hk9 bUR hBU9 hBwr rf;go_wp2_with (go_at_call 37;(with_reducible refine (HZA.o _ bi).mono ?_);rintro e41 w41 ⟨v41,q41,rfl,hD41,hR41,hO41,hZ41,hb41,hv41⟩;obtain ⟨A42,c42,e42,hZ42⟩:=hZ41.znv;subst e42;obtain ⟨o1,of1⟩:=hO41.cell;have zo:B < w41.heap.size:=hO41.lt)
   go_ret2;have hk:=HKN.o.1;have hbU:RowKit.Below U.heap.size U w41:=(ja0 HBR.o (show RowKit.Below wr.heap.size wr _ from bi)).trans (by rw [HC.o.2.2.2.2];exact hb41);subst hk;exact ⟨A42,c42,ps,rfl,HKN.o.2,hZ42,ja0 HBU.o hbU⟩
end

theorem jwV {k:Nat} (h:k≤1000):Dz 4 ((k:Nat):Rat):=⟨by show ((k:Nat):Rat).num.natAbs < 10^4;simp;omega,by show ((k:Nat):Rat).den < 10^4;simp⟩
theorem jxj (a b:Rat):jws a b=jws b a:=by unfold jws;split <;> split <;> grind
theorem jyo {x z:Rat} {k:Nat} (h:k≤1000) (dx:Dz 30 x) (dz:Dz 30 z):Dz 34 (frq x z k):=by
 unfold frq jws;split
 ·exact dz.mono (by omega)
 ·exact ((jwV h).mul dx).mono (by omega)
abbrev T1 (f:FuncId) (s:Value) (r:List UInt8):Prop:=∀W,Calls prog f #[s] W fun e w'=>e= .returned (bs r)∧Below W.heap.size W w'
abbrev T2 (f:FuncId) (s t r:List UInt8):Prop:=∀W,Calls prog f #[bs s,bs t] W fun e w'=>e= .returned (bs r)∧Below W.heap.size W w'
section
variable {w:World} {A B:Option Addr} {n cap m c2:Nat} {hs:List Hr} {c:Clim} {a b d k p q l h:List UInt8} {x y z:Rat}
theorem jyb {v:Int} (h0:T1 102 (.int .i64 v) k) (h1:T2 104 k a p) (h2:T2 103 d p l) (h3:T2 104 k b q) (h4:T2 103 d q h):
  Calls prog 48 #[.int .i64 v,sp a b,bs d] w fun e w'=>e= .returned (sp l h)∧Below w.heap.size w w':=by
 have H0:=qh h0;have H1:=qh h1;have H2:=qh h2;have H3:=qh h3;have H4:=qh h4;clear h0 h1 h2 h3 h4;go_enter func48,ntmps48;go_upto_region 2 with (go_at_call 102;(with_reducible refine mo2 w (H0.o _) (by go_size) fun w1 hb1 hc1 hf1 z1_0 z1_1 _=> ?_))
 refine ja1 (fun w'=>Below w1.heap.size w1 w') [13] (by kernel_rfl) ?_;refine tl [(0,[5],bs d),(1,[4],bs k),(2,[3], .pointer (some ⟨w.heap.size,0,none⟩)),(3,[4],bs a),(6,[11],bs d),(7,[10],bs k),(8,[9], .pointer (some ⟨w.heap.size,1,none⟩)),(9,[10],bs b)] [_,_,_,_,_,_,_,_] rfl (by kernel_rfl) pk5 (by intros;simp only [tyq,ppq];go_simp) bq0 ?_;simp only [tlq,ppq];refine rd1 4 (by kernel_rfl) rfl (fun K hK=> ?_);go_simp;go_wp2_with (go_at_call 104;(with_reducible refine mo2 w (H1.o _) (by go_size) fun w2 hb2 hc2 hf2 z2_0 z2_1 _=> ?_))
 have sS2:=qh (bst bq0 hb2);refine hK.out _ _ (fun _=>sS2.o) ?_;clear hK K;refine rd1 5 (by kernel_rfl) rfl (fun K hK=> ?_);go_simp;go_wp2_with (go_at_call 103;(with_reducible refine mo2 w (H2.o _) (by go_size) fun w3 hb3 hc3 hf3 z3_0 z3_1 _=> ?_))
 have sS3:=qh (bst sS2.o hb3);refine hK.out _ _ (fun _=>sS3.o) ?_;clear hK K;refine rd1 10 (by kernel_rfl) rfl (fun K hK=> ?_);go_simp;go_wp2_with (go_at_call 104;(with_reducible refine mo2 w (H3.o _) (by go_size) fun w4 hb4 hc4 hf4 z4_0 z4_1 _=> ?_))
 have sS4:=qh (bst sS3.o hb4);refine hK.out _ _ (fun _=>sS4.o) ?_;clear hK K;refine rd1 11 (by kernel_rfl) rfl (fun K hK=> ?_);go_simp;go_wp2_with (go_at_call 103;(with_reducible refine mo2 w (H4.o _) (by go_size) fun w5 hb5 hc5 hf5 z5_0 z5_1 _=> ?_))
 have sS5:=qh (bst sS4.o hb5);refine hK.out _ _ (fun _=>sS5.o) ?_;clear hK K;refine rd1 12 (by kernel_rfl) rfl (fun K hK=> ?_);go_simp;refine hK.out _ _ (fun _=>bi) ?_;clear hK K;refine rd1 13 (by kernel_rfl) rfl (fun K hK=> ?_);go_simp;refine hK.out _ _ (fun h=>(h (by decide)).elim) ?_;clear hK K;refine ja2 (by kernel_rfl) ?_ _;go_wp2;exact bodyPost_ret (v:=sp l h) (by simp [results,results48,go_sem,hc1,hc2,hc3,hc4,hc5,hf1,hf2,hf3,hf4,hf5,z1_1,z2_1,z3_1,z4_1,z5_1]) rfl ⟨rfl,bi⟩
theorem jxA {k:Nat} (hk:k≤1000) (dx:Dz 30 x) (dy:Dz 30 y) (dz:Dz 30 z):
  Calls prog 48 #[.int .i64 (k:Int),sp (tq x) (tq y),bs (tq z)] w fun e w'=>e= .returned (sp (tq (frq x z k)) (tq (frq y z k)))∧Below w.heap.size w w':=by
 have ex:frq x z k=jws z ((k:Rat)*x):=jxj _ _;have ey:frq y z k=jws z ((k:Rat)*y):=jxj _ _;rw [ex,ey];exact jyb (k:=tq ((k:Nat):Rat)) (p:=tq ((k:Rat)*x)) (q:=tq ((k:Rat)*y)) (fun W=>jlI (by omega)) (fun W=>jka (jwV hk) dx (by omega) (by omega) (by omega) (by omega)) (fun W=>jyp dz ((jwV hk).mul dx) (by omega) (by omega) (by omega) (by omega)) (fun W=>jka (jwV hk) dy (by omega) (by omega) (by omega) (by omega)) (fun W=>jyp dz ((jwV hk).mul dy) (by omega) (by omega) (by omega) (by omega))
set_option maxHeartbeats 16000000 in
theorem jxi (hH:Hv6 w A n hs) (hn:n≤900) (dx:Dz 30 x) (dy:Dz 30 y) (dz:Dz 30 z):
  Calls prog 12 #[.slice A n cap,clv c,sp (tq x) (tq y),bs (tq z)] w fun e w'=>∃A' c',e= .returned (.slice A' n c')∧Pv w' A' n (frT hs c x y z n)∧Below w.heap.size w w':=by
 obtain ⟨k1,k2,k3,k4⟩:=c;have H:=qh hH;have HN:=qh hn;have HR6:=qh (fun (W:World) (k:Nat) (hk:k≤1000)=>jxA (w:=W) hk dx dy dz);have HFS:=qh (jxE hs ⟨k1,k2,k3,k4⟩ x y z);have HFP:=qh (fun i=>show frP hs ⟨k1,k2,k3,k4⟩ x y z i=(frq x z (jwE hs ⟨k1,k2,k3,k4⟩ (i+1)),frq y z (jwE hs ⟨k1,k2,k3,k4⟩ (i+1))) from rfl);obtain ⟨TX,hTX⟩:∃T,tq x=T:=⟨_,rfl⟩;obtain ⟨TY,hTY⟩:∃T,tq y=T:=⟨_,rfl⟩;obtain ⟨TZ,hTZ⟩:∃T,tq z=T:=⟨_,rfl⟩;rw [hTX,hTY,hTZ] at HR6 ⊢;clear hH hn dx dy dz hTX hTY hTZ;go_enter func12,ntmps12;go_upto_region 2 with (fail)
 obtain ⟨W,hW⟩:∃W,((w.alloc (.cells #[.int .i64 k1, .int .i64 k2, .int .i64 k3, .int .i64 k4] 24)).alloc (.cells #[bs TX,bs TY] 27))=W:=⟨_,rfl⟩;have bW:Below w.heap.size w W:=by rw [←hW];exact bi
 have p0:W.cell? ⟨w.heap.size,0,none⟩=some (.int .i64 k1):=by rw [←hW];simp [go_sem]
 have p1:W.cell? ⟨w.heap.size,1,none⟩=some (.int .i64 k2):=by rw [←hW];simp [go_sem]
 have p2:W.cell? ⟨w.heap.size,2,none⟩=some (.int .i64 k3):=by rw [←hW];simp [go_sem]
 have p3:W.cell? ⟨w.heap.size,3,none⟩=some (.int .i64 k4):=by rw [←hW];simp [go_sem]
 have q0:W.cell? ⟨w.heap.size+1,0,none⟩=some (bs TX):=by rw [←hW];simp [go_sem]
 have q1:W.cell? ⟨w.heap.size+1,1,none⟩=some (bs TY):=by rw [←hW];simp [go_sem]
 rw [hW];have HC:=qh (ai (ai p0 (ai p1 (ai p2 p3))) (ai q0 q1));have HB:=qh bW;clear hW p0 p1 p2 p3 q0 q1 bW;obtain ⟨g,hg⟩:∃g,w.heap.size=g:=⟨_,rfl⟩;rw [hg] at HC ⊢;have HG:=qh hg;clear hg;go_wp2
 go_loopw [9,10,11] (fun v m u wr=>∃(i:Nat),u= .int .i64 (i:Int)∧i≤n∧m= .int .i64 ((jwE hs ⟨k1,k2,k3,k4⟩ i:Nat):Int)∧RowKit.Below W.heap.size W wr∧jwZ wr W.heap.size v i (frT hs ⟨k1,k2,k3,k4⟩ x y z i)) (fun _ _ u _=>n - (intOf u).toNat)
 case atStart=>exact ⟨0,rfl,Nat.zero_le _,rfl,bi,jwZ.nil _ _⟩
 case round=>
  obtain ⟨i,rfl,hin,rfl,hb,hV⟩:=hrel;have _:=bm hb;have hnn:=HN.o;by_cases hi:i < n
  ·have q0:decide ((i:Int) < (n:Int))=true:=by simp;exact hi
   have q9:decide (i < n)=true:=by simpa using hi
   obtain ⟨b,o,rfl,hbl,hcell⟩:=(H.o.below (ja0 HB.o hb)).at_ (by omega);have hxy:=hcell i (by rw [H.o.len];exact hi);obtain ⟨⟨e1,e2⟩,he⟩:∃x,hs.getD i (0,0)=x:=⟨_,rfl⟩;rw [he] at hxy;obtain ⟨y0,y1⟩:=hxy;dsimp only at y0 y1;obtain ⟨f,hf⟩:∃f,jhG (e1,e2) ⟨k1,k2,k3,k4⟩=f:=⟨_,rfl⟩;have HS:=qh (fun W=>jwT (w:=W) hf)
   have hcn:jwE hs ⟨k1,k2,k3,k4⟩ (i+1)=jwE hs ⟨k1,k2,k3,k4⟩ i+(if f then 1 else 0):=by
    show jwE hs ⟨k1,k2,k3,k4⟩ i+(if jhG (hs.getD i (0,0)) ⟨k1,k2,k3,k4⟩ then 1 else 0)=_
    rw [he,hf]
   have hc1:jwE hs ⟨k1,k2,k3,k4⟩ (i+1)≤1000:=Nat.le_trans (jwS hs ⟨k1,k2,k3,k4⟩ (i+1)) (by omega);obtain ⟨j,hj⟩:∃j,jwE hs ⟨k1,k2,k3,k4⟩ i=j:=⟨_,rfl⟩;obtain ⟨j1,hj1⟩:∃j,jwE hs ⟨k1,k2,k3,k4⟩ (i+1)=j:=⟨_,rfl⟩;have hst:=HFS.o i;rw [HFP.o i,hj1] at hst;dsimp only at hst;rw [hj,hj1] at hcn;rw [hj1] at hc1;rw [hj];have HRI:=qh (fun W=>HR6.o W j1 hc1);obtain ⟨L1,hL1⟩:∃T,tq (frq x z j1)=T:=⟨_,rfl⟩;obtain ⟨L2,hL2⟩:∃T,tq (frq y z j1)=T:=⟨_,rfl⟩;rw [hL1,hL2] at HRI hst;have HK:=qh (ai hcn (ai hst (ai hi (ai hj1 hc1))));have HV:=qh hV;have HBR:=qh hb;have p0:=ja9 hb HC.o.1.1;have p1:=ja9 hb HC.o.1.2.1;have p2:=ja9 hb HC.o.1.2.2.1;have p3:=ja9 hb HC.o.1.2.2.2;have zp:g < wr.heap.size:=World.block_lt_of_cell? wr _ p0;clear hV hb hcell he hcn hf hin hst hj hj1 hL1 hL2;go_upto_region 6 with (fail)
   refine ja1 (fun w'=>Below wr.heap.size wr w') [] (by kernel_rfl) ?_;refine tl [(0,[2], .slice (some ⟨b,o,none⟩) n cap),(1,[2], .int .i64 (i:Int)),(2,[3], .pointer (some ⟨b,o+i*2,none⟩)),(3,[5],hrv (e1,e2)),(4,[5],clv ⟨k1,k2,k3,k4⟩)] [_,_,_,_,_] rfl (by kernel_rfl) pk5 (by intros;simp only [tyq,ppq];go_simp) bq0 ?_;simp only [tlq,ppq];refine rd1 5 (by kernel_rfl) rfl (fun K hK=> ?_);go_simp;go_wp2_with (go_at_call 47;(with_reducible refine mo0 (HS.o _) fun w21 hb21 hc21 hf21 _=> ?_))
   have sS21:=qh (bst bq0 hb21);refine hK.out _ _ (fun _=>sS21.o) ?_;clear hK K;refine ja2 (by kernel_rfl) ?_ _;have b21:RowKit.Below wr.heap.size wr w21:=bi;have HV:=qh (HV.o.below b21);have HBR:=qh (ja0 HBR.o b21);clear b21 hb21 hc21 hf21 y0 y1 hbl p0 p1 p2 p3 zp
   go_upto_if 23 with (fail)
   go_cut [10] (fun v wx=>v= .int .i64 (j1:Int)∧wx=w21)
   case first=>
    have hc:=HK.o.1;have hc1:=HK.o.2.2.2.2;cases f with
    | false=>
      obtain rfl:j1=j:=by simpa using hc
      clear hc;go_wp2;go_meet;exact ⟨rfl,rfl⟩
    | true=>
      obtain rfl:j1=j+1:=by simpa using hc
      clear hc;go_wp2;go_meet;exact ⟨by simp [wrap64] <;> omega,rfl⟩
   case rest=>
    obtain ⟨rfl,rfl⟩:=hcut
    rename World=>wx
    obtain ⟨q0,q1⟩:=HC.o.2;replace q0:=ja9 HBR.o q0;replace q1:=ja9 HBR.o q1;have zq:g+1 < wx.heap.size:=World.block_lt_of_cell? wx _ q0;have hi1:i≤100000:=by omega
    have hsz:W.heap.size≤wx.heap.size:=HBR.o.size;go_wp2_with (first|(go_at_call 48;(with_reducible refine mo0 (HRI.o _) fun w22 hb22 hc22 hf22 _=> ?_))|(at_builtin;refine jwB (x:=(L1,L2)) (n:=i) (base:=W.heap.size) rfl _ _ rfl rfl rfl rfl ((HV.o.below hb22).below (bA bR)) hi1 (Nat.le_trans hsz (Nat.le_trans hb22.size (by simp))) (by simp [go_sem]) (by simp [go_sem]) ?_;intro A7 c7 w7 hV7 hg7 hl7))
    have bX:RowKit.Below W.heap.size W w7:=by
     refine Below.trans (ja0 HBR.o (show RowKit.Below wx.heap.size wx _ from ?_)) (jab hg7 ?_ (fun k e=>(World.ownsRow.lt HV.o k e).1))
     ·exact bi
     ·exact Nat.le_trans hsz (Nat.le_trans hb22.size (by simp))
    have hi:=HK.o.2.2.1;exact ⟨⟨i+1,by simp,hi,by rw [HK.o.2.2.2.1],bX,by rw [HK.o.2.1];exact hV7⟩,by simp [intOf];omega⟩
  ·have q0:decide (i < n)=false:=by simp;omega
   obtain rfl:i=n:=by omega
   have HV:=qh hV;have HBR:=qh hb;obtain ⟨A7,c7,rfl⟩:=hV.slice;clear hV hb hi;go_wp2;go_ret;refine ⟨A7,c7,rfl,⟨jx3 _ _ _ _ _ _,fun h0=> ?_⟩,ja0 HB.o HBR.o⟩;obtain ⟨A8,c8,e,hp⟩:=HV.o.pv (jx3 _ _ _ _ _ _) h0;cases e
   exact hp.at_ h0
end
section
variable {w:World} {A B:Option Addr} {n m c d:Nat} {ps qs:List (List UInt8×List UInt8)}
theorem jxm (h:n≠m):Calls prog 11 #[.slice A n c, .slice B m d] w fun e w'=>e= .returned (.bool false)∧Below w.heap.size w w':=by
 have q0:((n:Int)==(m:Int))=false:=by rw [beq_eq_false_iff_ne];omega
 have q1:(n==m)=false:=by rw [beq_eq_false_iff_ne];exact h
 go_enter func11,ntmps11;go_wp2;go_ret;exact ⟨rfl,bi⟩
theorem jxl {r:Bool} (h:Pv w A n ps) (h':Pv w B n qs) (hn:n≤100000) (hr:decide (ps=qs)=r):Calls prog 11 #[.slice A n c, .slice B n d] w fun e w'=>e= .returned (.bool r)∧Below w.heap.size w w':=by
 have H:=qh h;have H':=qh h';have HN:=qh hn;have HR:=qh hr;clear h h' hn hr;go_enter func11,ntmps11;go_wp2
 go_loopw [5] (fun u wr=>∃(i:Nat),u= .int .i64 (i:Int)∧i≤n∧Below w.heap.size w wr∧decide (ps.drop i=qs.drop i)=r) (fun u _=>n - (intOf u).toNat)
 case atStart=>exact ⟨0,rfl,Nat.zero_le _,bi,HR.o⟩
 case round=>
  obtain ⟨i,rfl,hin,hb,hc⟩:=hrel;have _:=bm hb;have hnn:=HN.o;by_cases hi:i < n
  ·have p0:decide (i < n)=true:=by simpa using hi
   obtain ⟨b,o,rfl,hbl,hat⟩:=(H.o.below hb).at_ (by omega);obtain ⟨b',o',rfl,hbl',hat'⟩:=(H'.o.below hb).at_ (by omega);obtain ⟨k0,k1⟩:=hat i hi;obtain ⟨k3,k4⟩:=hat' i hi;rw [jpS (d:=([],[])) (by rw [H.o.len];exact hi) (by rw [H'.o.len];exact hi)] at hc;obtain ⟨⟨x1,x2⟩,hx⟩:∃x,ps.getD i ([],[])=x:=⟨_,rfl⟩;obtain ⟨⟨y1,y2⟩,hy⟩:∃x,qs.getD i ([],[])=x:=⟨_,rfl⟩;rw [hx] at k0 k1 hc;rw [hy] at k3 k4 hc;dsimp only at k0 k1 k3 k4;have HII:=qh hi;clear hat hat' hx hy;by_cases hx1:x1=y1
   ·subst hx1;by_cases hx2:x2=y2
    ·subst hx2;have HC:Hd (decide (ps.drop (i+1)=qs.drop (i+1))=r):=qh (by simpa using hc);clear hc;go_upto_region 6 with (fail)
     go_quiet (fail)
     go_wp2;exact ⟨⟨i+1,by simp,HII.o,bi,HC.o⟩,by have:=HII.o;simp [intOf];omega⟩
    ·have q0:(x2==y2)=false:=by rw [beq_eq_false_iff_ne];exact hx2
     have q1:(x2 != y2)=true:=by rw [bne_iff_ne];exact hx2
     have hR:r=false:=by rw [←hc];simp [hx2]
     subst hR;clear hc;go_upto_region 6 with (fail)
     go_quiet (fail)
     go_wp2;go_ret;exact ⟨rfl,bi⟩
   ·have q0:(x1==y1)=false:=by rw [beq_eq_false_iff_ne];exact hx1
    have q1:(x1 != y1)=true:=by rw [bne_iff_ne];exact hx1
    have hR:r=false:=by rw [←hc];simp [hx1]
    subst hR;clear hc;go_upto_region 6 with (fail)
    go_quiet (fail)
    go_wp2;go_ret;exact ⟨rfl,bi⟩
  ·have p0:decide (i < n)=false:=by simp;omega
   rw [List.drop_eq_nil_of_le (by rw [H.o.len];omega),List.drop_eq_nil_of_le (by rw [H'.o.len];omega)] at hc;have hR:r=true:=by rw [←hc];rfl
   subst hR;clear hc hi;go_wp2;go_ret;exact ⟨rfl,bi⟩
theorem jwF {r:Bool} (h:Pv w A n ps) (h':Pv w B m qs) (hn:n≤100000) (hr:decide (ps=qs)=r):Calls prog 11 #[.slice A n c, .slice B m d] w fun e w'=>e= .returned (.bool r)∧Below w.heap.size w w':=by
 by_cases e:n=m
 ·subst e;exact jxl h h' hn hr
 ·have:r=false:=by
   rw [←hr,decide_eq_false_iff_not];intro e2;exact e (by rw [←h.len,←h'.len,e2])
  subst this;exact jxm e
end
end Go.Proofs.YtonifflnjjcanaaGreatDoor
