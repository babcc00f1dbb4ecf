/- Parts. -/
import Derived.Test.YtgplamoekjdilaaGreatDoorArG
import Derived.Test.YtgplamoekjdilaaGreatDoorYkG
set_option linter.all false
set_option maxRecDepth 100000
set_option maxHeartbeats 8000000
namespace Go.Proofs.YtgplamoekjdilaaGreatDoor
open Go Go.RowKit Go.Sort Go.Proofs.Tryz

def jwF (hs:List Hr) (c:Clim) (k:Nat):Bool:=jhG (hs.getD (hs.length - 1 - k) (0,0)) c
def jwI (f:Bool):List UInt8:=if f then [103,111,111,100] else [98,97,100]
inductive ZR (hs:List Hr) (c:Clim) (x y z:Rat) (n:Nat):Nat→List Zn→Prop
 | nil:ZR hs c x y z n 0 []
 | run {k m:Nat} {ps:List Zn}:ZR hs c x y z n k ps→k < m→m≤n→(∀j,k≤j→j < m→jwF hs c j=jwF hs c k)→(m < n→jwF hs c m≠jwF hs c k)→
    ZR hs c x y z n m (jxb ps (jwI (jwF hs c k)) ((k:Rat)*x) ((k:Rat)*y) ((m:Rat)*x) ((m:Rat)*y) z)
theorem jwL (m:Nat) (x:Rat):(m:Rat)*x+x=((m+1:Nat):Rat)*x:=by
 rw [show ((m+1:Nat):Rat)=(m:Rat)+1 by push_cast;rfl];grind
theorem jxF (ps:List Zn) (kd:List UInt8) (a1 a2 t1 t2 z:Rat):(jxb ps kd a1 a2 t1 t2 z).length≤ps.length+1:=by
 unfold jxb;split <;> simp
theorem ZR.len {hs:List Hr} {c:Clim} {x y z:Rat} {n k:Nat} {ps:List Zn} (h:ZR hs c x y z n k ps):ps.length≤k∧k≤n:=by
 induction h with
 | nil=>exact ⟨by simp,by omega⟩
 | run h hk hm _ _ ih=>exact ⟨Nat.le_trans (jxF _ _ _ _ _ _ _) (by omega),hm⟩
theorem OwnZ5.znv {w:World} {base:Nat} {v:Value} {ps:List Zn} (h:OwnZ5 w base v ps.length ps):∃A c,v= .slice A ps.length c∧Znv w A ps.length ps:=by
 by_cases h0:0 < ps.length
 ·exact h.row.pv rfl h0
 ·obtain ⟨A,c,e⟩:=h.row.slice;exact ⟨A,c,e,rfl,fun h=>absurd h h0⟩
section
variable {w:World} {A:Option Addr} {n cap:Nat} {hs:List Hr} {c:Clim} {a b d:List UInt8}
set_option maxHeartbeats 32000000 in
theorem jyo {x y z:Rat} (hE:Env w) (h:Hv6 w A n hs) (hn:n≤900) (hla:a.length < 4294967281) (hlb:b.length < 4294967281) (hld:d.length < 4294967281) (hx:numQ a=x) (hy:numQ b=y) (hz:numQ d=z) (hK:jxr hs c a b d=0) (hW:∀k,k≤n→Wr (frq x z k)∧Wr (frq y z k)) (hWz:Wr z):
  Calls prog 23 #[.slice A n cap,clv c,sp a b,bs d] w fun e w'=>∃A' c' ps,e= .returned (.tuple #[.slice A' (jxb ps [111,108,100] ((n:Rat)*x) ((n:Rat)*y) z z z).length c', .int .i64 0])∧ZR hs c x y z n n ps∧Znv w' A' (jxb ps [111,108,100] ((n:Rat)*x) ((n:Rat)*y) z z z).length (jxb ps [111,108,100] ((n:Rat)*x) ((n:Rat)*y) z z z)∧Below w.heap.size w w':=by
 have ho:=jxa hK;have HAI:=qh (fun W (hb:Below w.heap.size w W)=>jwy (cap:=cap) (hE.below hb) (h.below hb) (by omega) hla hlb hld hx hy hz hK);have HH:=qh (fun W (hb:Below w.heap.size w W)=>h.below hb);have HE:=qh hE;have HW:=qh (And.intro hW hWz);have HN:=qh hn;have HO:=qh (And.intro (hx ▸ ho.na.sz) (And.intro (hy ▸ ho.nb.sz) (And.intro (hz ▸ ho.nd.sz) (And.intro (hx ▸ ho.low) (And.intro (hy ▸ (Rat.le_trans ho.low ho.ord)) (hz ▸ ho.pos))))));have HF0:=qh (show ((0:Int):Rat)=0 from rfl);have HR0:=qh (show R64 0 by constructor <;> decide);obtain ⟨k1,k2,k3,k4⟩:=c;clear hE h hn hla hlb hld hx hy hz hK hW hWz ho;go_enter func23,ntmps23;go_upto_region 4 with (go_at_call 75;(with_reducible refine (HAI.o _ bi).mono ?_);rintro e1 w1 ⟨s1,A1,n1,c1,t1,B1,m1,d1,s2,A2,n2,c2,t2,B2,m2,d2,s3,A3,n3,c3,t3,B3,m3,d3,rfl,hA1,hb1⟩;obtain ⟨hc1,hf1,_⟩:=bc0 hb1)
 obtain ⟨U,gs,gd,gc,hU,hgs,hgd,hgc,bU,hcl,hsp,hfc,kx,ky,kz⟩:=jyL (ja0 (bA bR) hb1) (hA1 trivial);simp only [hU,hgd];simp only [hgs,hgc];have HBU:=qh bU;have hgd:=hfc.lt;obtain ⟨B,hB⟩:∃B,U.heap.size=B:=⟨_,rfl⟩;rw [hB] at hgd;have HX:=qh (And.intro kx (And.intro ky kz));have HC:=qh (And.intro hcl (And.intro hsp (And.intro hfc (And.intro hgd hB))));clear hA1 bU kx ky kz hcl hsp hfc hU hgs hgc hgd hb1 hc1 hf1 HAI;go_upto_region 6 with (first|(have _:=hr11;(go_at_call 57;(with_reducible refine mf0 (jes HF0.o HR0.o) fun w12 s12 A12 n12 c12 t12 B12 m12 d12 hr12 hq12 hb12 hc12 hf12 _=> ?_)))|(go_at_call 57;(with_reducible refine mf0 (jes HF0.o HR0.o) fun w11 s11 A11 n11 c11 t11 B11 m11 d11 hr11 hq11 hb11 hc11 hf11 _=> ?_)))
 obtain ⟨W,hW⟩:∃W,(w12.alloc (.cells #[.int .i64 s11, .slice A11 n11 c11, .int .i64 t11, .slice B11 m11 d11, .int .i64 s12, .slice A12 n12 c12, .int .i64 t12, .slice B12 m12 d12] 134))=W:=⟨_,rfl⟩;have b12:RowKit.Below w12.heap.size w12 W:=by rw [←hW];exact bA bR
 have hD0:DBox W w12.heap.size (((s11,A11,n11,c11),(t11,B11,m11,d11)),((s12,A12,n12,c12),(t12,B12,m12,d12))):=by rw [←hW];exact DBox.made w12 _ _ _ _ _ _ _ _ _ _ _ _ _ _ _ _ _
 have hp1:RepF W s11 A11 n11 c11 t11 B11 m11 d11 0:=RepF.below (w:=w12) (by constructor <;> (with_reducible repeat first|assumption|apply rZ|refine rP ?_ rfl (by simp [go_sem,hc12]))) b12;have hp2:RepF W s12 A12 n12 c12 t12 B12 m12 d12 0:=RepF.below (w:=w12) ⟨hr12,hq12⟩ b12;have bO:RowKit.Below (U.alloc (.cells #[.slice none 0 0] 49)).heap.size (U.alloc (.cells #[.slice none 0 0] 49)) W:=ja0 bi b12;have bV:RowKit.Below U.heap.size U W:=ja0 (bA bR) bO;have hO0:=(OBox.made U 49).below bO
 have hga:B < w12.heap.size:=by
  have h1:=hb11.size;have h2:=hb12.size;simp at h1;omega
 simp only [hW];rw [hB] at hO0;obtain ⟨ga,hgga⟩:∃g,w12.heap.size=g:=⟨_,rfl⟩;simp only [hgga] at hD0 hga ⊢;have hx0:((0:Nat):Rat)*x=0:=Rat.zero_mul x;have hy0:((0:Nat):Rat)*y=0:=Rat.zero_mul y;rw [←hx0] at hp1;rw [←hy0] at hp2;have HST:=qh (And.intro hD0 (And.intro (And.intro hp1 hp2) (And.intro bV hO0)));have HG:=qh hga;clear hW b12 hgga hb11 hb12 hc11 hc12 hf11 hf12 hr11 hq11 hr12 hq12 hx0 hy0 hD0 hp1 hp2 bV bO hO0;go_wp2
 go_loopw [16] (fun u wr=>∃(k:Nat) (ps:List Zn) (v:Value) (q:PT),u= .int .i64 ((n:Int) - 1 - (k:Int))∧k≤n∧RowKit.Below U.heap.size U wr∧ZR hs ⟨k1,k2,k3,k4⟩ x y z n k ps∧DBox wr ga q∧jwz wr q ((k:Rat)*x,(k:Rat)*y)∧OBox wr B v∧OwnZ5 wr B v ps.length ps∧(∀g,v.ownBlock=some g→g≠ga∧g≠B)) (fun u _=>(intOf u+1).toNat)
 case atStart=>exact ⟨0,[],_,_,by have:=HN.o;simp;unfold wrap64;omega,Nat.zero_le _,HST.o.2.2.1,ZR.nil,HST.o.1,HST.o.2.1,HST.o.2.2.2,OwnZ5.nil _ _,fun g h=>by cases h⟩
 case round=>
  obtain ⟨k,ps,v,q,rfl,hkn,hb,hZR,hD,hR,hO,hV,hne⟩:=hrel;have _:=bm hb;have hnn:=HN.o;by_cases hi:k < n
  ·obtain ⟨i,hik⟩:∃i:Nat,n=i+1+k:=⟨n - 1 - k,by omega⟩;have e1:(n:Int) - 1 - (k:Int)=(i:Int):=by omega
   rw [e1];have hin:i < n:=by omega
   have q9:decide (i < n)=true:=by simpa using hin
   have hHV:=HH.o wr (ja0 HBU.o hb);obtain ⟨b,o,rfl,hbl,hcell⟩:=hHV.at_ (by omega);have hlen:=hHV.len;have hxy:=hcell i (by omega);obtain ⟨⟨e3,e4⟩,he⟩:∃x,hs.getD i (0,0)=x:=⟨_,rfl⟩;rw [he] at hxy;obtain ⟨y0,y1⟩:=hxy;dsimp only at y0 y1;obtain ⟨f,hf⟩:∃f,jhG (e3,e4) ⟨k1,k2,k3,k4⟩=f:=⟨_,rfl⟩
   have hend:jwF hs ⟨k1,k2,k3,k4⟩ k=f:=by
    unfold jwF;rw [show hs.length - 1 - k=i by omega,he,hf]
   have HS:=qh (fun W=>jwM (w:=W) hf);have HK:=qh (And.intro hend (And.intro hZR (And.intro hne (And.intro hik hlen))));have HV:=qh (And.intro hO hV);have HR:=qh (And.intro hD hR);have HBR:=qh hb;obtain ⟨⟨⟨s4,A4,n4,c4⟩,t4,B4,m4,d4⟩,⟨⟨s5,A5,n5,c5⟩,t5,B5,m5,d5⟩⟩:=q;obtain ⟨v0,v1,v2,v3,v4,v5,v6,v7,vf⟩:=hD.sc;dsimp only at v0 v1 v2 v3 v4 v5 v6 v7;have zv:ga < wr.heap.size:=hD.lt;obtain ⟨hcc,_⟩:=HC.o;have p0:=ja9 hb hcc.1;have p1:=ja9 hb hcc.2.1;have p2:=ja9 hb hcc.2.2.1;have p3:=ja9 hb hcc.2.2.2;have zp:gc < wr.heap.size:=World.block_lt_of_cell? wr _ p0;have _:Sl ga wr.heap.size:=⟨zv⟩;have _:Sl gc wr.heap.size:=⟨zp⟩;clear hb hZR hD hR hO hV hne hHV hcell he hf hend hlen hkn hi e1 vf hcc hik;go_upto_region 9 with (fail)
   refine ja1 (fun w'=>Below wr.heap.size wr w') [] (by kernel_rfl) ?_;refine tl [(0,[2], .slice (some ⟨b,o,none⟩) n cap),(1,[2], .int .i64 (i:Int)),(2,[3], .pointer (some ⟨b,o+i*2,none⟩)),(3,[5],hrv (e3,e4)),(4,[5],clv ⟨k1,k2,k3,k4⟩)] [_,_,_,_,_] rfl (by kernel_rfl) pk5 (by intros;simp only [tyq,ppq];go_simp) bq0 ?_;simp only [tlq,ppq];refine rd1 5 (by kernel_rfl) rfl (fun K hK=> ?_);go_simp;go_wp2_with (go_at_call 80;(with_reducible refine mo0 (HS.o _) fun w21 hb21 hc21 hf21 _=> ?_))
   have sS21:=qh (bst bq0 hb21);refine hK.out _ _ (fun _=>sS21.o) ?_;clear hK K;refine rd1 6 (by kernel_rfl) rfl (fun K hK=> ?_);go_simp;refine hK.out _ _ (fun _=>bi) ?_;clear hK K;refine ja2 (by kernel_rfl) ?_ _;have hy21:ga < w21.heap.size:=Nat.lt_of_lt_of_le zv hb21.size
   go_upto_block 2 with (fail)
   obtain ⟨X,hX⟩:∃X,(w21.alloc (.cells #[.int .i64 s4, .slice A4 n4 c4, .int .i64 t4, .slice B4 m4 d4, .int .i64 s5, .slice A5 n5 c5, .int .i64 t5, .slice B5 m5 d5] 134))=X:=⟨_,rfl⟩;have bX:RowKit.Below wr.heap.size wr X:=by rw [←hX];exact bi
   have hDX:DBox X w21.heap.size (((s4,A4,n4,c4),(t4,B4,m4,d4)),((s5,A5,n5,c5),(t5,B5,m5,d5))):=by rw [←hX];exact DBox.made w21 _ _ _ _ _ _ _ _ _ _ _ _ _ _ _ _ _
   have hRX:=jwz.below HR.o.2 bX;have hgt:wr.heap.size≤w21.heap.size:=sS21.o.size;simp only [hX];obtain ⟨gt,hgtt⟩:∃g,w21.heap.size=g:=⟨_,rfl⟩;simp only [hgtt] at hDX hgt ⊢;have HX2:=qh (And.intro bX (And.intro hDX hRX));have HGT:=qh hgt;clear bX hDX hRX hX hgtt hgt hb21 hc21 hf21 sS21 hy21 y0 y1 hbl q9 v0 v1 v2 v3 v4 v5 v6 v7 zv p0 p1 p2 p3 zp hin;obtain ⟨wo,hwo⟩:∃W,W=wr:=⟨_,rfl⟩;subst hwo
   go_cut [16] (fun u wx=>∃(m:Nat) (q:PT),u= .int .i64 ((n:Int) - 1 - (m:Int))∧k < m∧m≤n∧(∀j,k≤j→j < m→jwF hs ⟨k1,k2,k3,k4⟩ j=f)∧(m < n→jwF hs ⟨k1,k2,k3,k4⟩ m≠f)∧RowKit.Below wo.heap.size wo wx∧DBox wx gt q∧jwz wx q ((m:Rat)*x,(m:Rat)*y))
   case first=>
    go_wp2
    go_loopw [16] (fun u wx=>∃(m:Nat) (q:PT),u= .int .i64 ((n:Int) - 1 - (m:Int))∧k≤m∧m≤n∧(∀j,k≤j→j < m→jwF hs ⟨k1,k2,k3,k4⟩ j=f)∧RowKit.Below wo.heap.size wo wx∧DBox wx gt q∧jwz wx q ((m:Rat)*x,(m:Rat)*y)) (fun u _=>(intOf u+1).toNat)
    case atStart=>exact ⟨k,_,by have:=HK.o.2.2.2.1;congr 1;omega,Nat.le_refl _,by have:=HK.o.2.2.2.1;omega,fun j h1 h2=>by omega,HX2.o.1,HX2.o.2.1,HX2.o.2.2⟩
    case round=>
     obtain ⟨m,q,rfl,hkm,hmn,hfs,hb2,hD2,hR2⟩:=hrel;have _:=bm hb2;have HFS:=qh (And.intro hfs (And.intro hkm hmn));have HR2:=qh (And.intro hD2 hR2);have HB2:=qh hb2;obtain ⟨⟨⟨s6,A6,n6,c6⟩,t6,B6,m6,d6⟩,⟨⟨s7,A7,n7,c7⟩,t7,B7,m7,d7⟩⟩:=q;obtain ⟨v0,v1,v2,v3,v4,v5,v6,v7,vf⟩:=hD2.sc;dsimp only at v0 v1 v2 v3 v4 v5 v6 v7;have zv:gt < wr.heap.size:=hD2.lt;by_cases hm:m < n
     ·obtain ⟨l,hlm⟩:∃l:Nat,n=l+1+m:=⟨n - 1 - m,by omega⟩;have e1:(n:Int) - 1 - (m:Int)=(l:Int):=by omega
      rw [e1];have hin:l < n:=by omega
      have q9:decide (l < n)=true:=by simpa using hin
      have q8:decide ((0:Int)≤(l:Int))=true:=by simp
      have bb:=ja0 HBR.o hb2;have hHV:=HH.o wr (ja0 HBU.o bb);obtain ⟨b',o',e,hbl,hcell⟩:=hHV.at_ (by omega);cases e
      have hlen:=hHV.len;have hxy:=hcell l (by omega);obtain ⟨⟨e5,e6⟩,he⟩:∃x,hs.getD l (0,0)=x:=⟨_,rfl⟩;rw [he] at hxy;obtain ⟨y0,y1⟩:=hxy;dsimp only at y0 y1;obtain ⟨f2,hf⟩:∃f,jhG (e5,e6) ⟨k1,k2,k3,k4⟩=f:=⟨_,rfl⟩
      have hend:jwF hs ⟨k1,k2,k3,k4⟩ m=f2:=by
       unfold jwF;rw [show hs.length - 1 - m=l by omega,he,hf]
      have HS2:=qh (fun W=>jwM (w:=W) hf);have HK2:=qh (And.intro hend hlm);obtain ⟨hcc,_⟩:=HC.o;have p0:=ja9 bb hcc.1;have p1:=ja9 bb hcc.2.1;have p2:=ja9 bb hcc.2.2.1;have p3:=ja9 bb hcc.2.2.2;have zp:gc < wr.heap.size:=World.block_lt_of_cell? wr _ p0;clear hfs hkm hmn hb2 hD2 hR2 hm hlm e1 bb hHV hcell hlen he hf hend hcc vf;go_upto_region 11 with (fail)
      refine ja1 (fun w'=>Below wr.heap.size wr w') [] (by kernel_rfl) ?_;refine tl [(0,[1], .int .i64 (l:Int)),(1,[2], .bool true),(2,[11], .bool true),(3,[5], .slice (some ⟨b,o,none⟩) n cap),(4,[5], .int .i64 (l:Int)),(5,[6], .pointer (some ⟨b,o+l*2,none⟩)),(6,[8],hrv (e5,e6)),(7,[8],clv ⟨k1,k2,k3,k4⟩)] [_,_,_,_,_,_,_,_] rfl (by kernel_rfl) pk5 (by intros;simp only [tyq,ppq];go_simp) bq0 ?_;simp only [tlq,ppq];refine tb 9 (.bool f) [10] rfl (by kernel_rfl) pk rfl (by intros;go_simp) bq0 ?_;simp only [ppq];refine rd1 8 (by kernel_rfl) rfl (fun K hK=> ?_);go_simp;go_wp2_with (go_at_call 80;(with_reducible refine mo0 (HS2.o _) fun w31 hb31 hc31 hf31 _=> ?_))
      have sS31:=qh (bst bq0 hb31);refine hK.out _ _ (fun _=>sS31.o) ?_;clear hK K;refine rd1 10 (by kernel_rfl) rfl (fun K hK=> ?_);go_simp;refine hK.out _ _ (fun _=>bi) ?_;clear hK K;refine rd1 11 (by kernel_rfl) rfl (fun K hK=> ?_);go_simp;refine hK.out _ _ (fun _=>bi) ?_;clear hK K;refine ja2 (by kernel_rfl) ?_ _;have b31:RowKit.Below wr.heap.size wr w31:=bi;by_cases hff:f2=f
      ·subst hff;have q7:(f2==f2)=true:=by simp
       simp only [q7];have D31:=HR2.o.1.below b31;have R31:=jwz.below HR2.o.2 b31;have B31:RowKit.Below wo.heap.size wo w31:=ja0 HB2.o b31;clear v0 v1 v2 v3 v4 v5 v6 v7 zv y0 y1 p0 p1 p2 p3 zp q9 q8 hin hbl;obtain ⟨v0,v1,v2,v3,v4,v5,v6,v7,vf⟩:=D31.sc;dsimp only at v0 v1 v2 v3 v4 v5 v6 v7;have vf0:=vf 0;have vf1:=vf 1;have vf2:=vf 2;have vf3:=vf 3;have vf4:=vf 4;have vf5:=vf 5;have vf6:=vf 6;have vf7:=vf 7;have zv:gt < w31.heap.size:=D31.lt;have bU31:RowKit.Below U.heap.size U w31:=ja0 HBR.o B31;have D32:=HC.o.2.1.below bU31;obtain ⟨r0,r1,r2,r3,r4,r5,r6,r7,_⟩:=D32.sc;dsimp only at r0 r1 r2 r3 r4 r5 r6 r7;have zr:gs < w31.heap.size:=D32.lt;have _:Sl gt w31.heap.size:=⟨zv⟩;have _:Sl gs w31.heap.size:=⟨zr⟩;have HS31:=qh (And.intro (RepF.below HX.o.1 bU31) (RepF.below HX.o.2.1 bU31));have HR31:=qh (And.intro D31 R31);have HB31:=qh B31;have hm9:m≤1000:=Nat.le_trans HFS.o.2.2 (Nat.le_trans hnn (by omega));have HY:=qh (And.intro (jwL m x) (jwL m y));have HZ9:=qh (And.intro ((jwu hm9).mul HO.o.1) ((jwu hm9).mul HO.o.2.1));clear D31 R31 B31 vf bU31 D32 b31 hb31 hc31 hf31 hm9;go_upto_region 13 with ((go_at_call 81;(with_reducible refine (jxG (p:=1+600) (q:=600) (RepF.below HR31.o.2.1 bi) (RepF.below HR31.o.2.2 bi) (RepF.below HS31.o.1 bi) (RepF.below HS31.o.2 bi) HZ9.o.1 HZ9.o.2 HO.o.1 HO.o.2.1 (by omega) HY.o.1 HY.o.2).mono ?_);rintro e32 w32 ⟨s32,A32,n32,c32,t32,B32,m32,d32,u32,C32,i32,j32,v32,D32,o32,l32,rfl,⟨⟨hr32,hq32⟩,hu32,hv32⟩,hb32⟩;obtain ⟨hc32,hf32,_⟩:=bc0 hb32);have y32_0:=zlt (gt) hb32;have y32_1:=zlt (gs) hb32)
       have m2:wrap64 ((l:Int) - 1)=(n:Int) - 1 - ((m+1:Nat):Int):=by have:=HK2.o.2;unfold wrap64;omega
       have hm1:m+1≤n:=by have:=HK2.o.2;omega
       have hml:(l:Int)=(n:Int) - 1 - (m:Int):=by have:=HK2.o.2;omega
       have b32:RowKit.Below w31.heap.size w31 w32:=bi;have D33:=(HR31.o.1.below b32);have R33:=jwz.grown (q:=(((s32,A32,n32,c32),(t32,B32,m32,d32)),((u32,C32,i32,j32),(v32,D32,o32,l32)))) (x:=(((m+1:Nat):Rat)*x,((m+1:Nat):Rat)*y)) ⟨⟨hr32,hq32⟩,⟨hu32,hv32⟩⟩ (jwE (g:=gt) (s:=s32) (A:=A32) (n:=n32) (c:=c32) (t:=t32) (B:=B32) (m:=m32) (d:=d32) (u:=u32) (C:=C32) (i:=i32) (j:=j32) (v:=v32) (D:=D32) (o:=o32) (l:=l32)) (fun k e=>by cases e;exact D33.nou);have B33:=jyq (s:=s32) (A:=A32) (n:=n32) (c:=c32) (t:=t32) (B:=B32) (m:=m32) (d:=d32) (u:=u32) (C:=C32) (i:=i32) (j:=j32) (v:=v32) (D:=D32) (o:=o32) (l:=l32) (ja0 HB31.o b32) HGT.o;have D34:=D33.setR (s:=s32) (A:=A32) (n:=n32) (c:=c32) (t:=t32) (B:=B32) (m:=m32) (d:=d32) (u:=u32) (C:=C32) (i:=i32) (j:=j32) (v:=v32) (D:=D32) (o:=o32) (l:=l32)
       have hfj:∀j,k≤j→j < m+1→jwF hs ⟨k1,k2,k3,k4⟩ j=f2:=fun j h1 h2=>by
        by_cases e:j=m
        ·rw [e];exact HK2.o.1
        ·exact HFS.o.1 j h1 (by omega)
       go_wp2
       go_roundw
       case rel=>exact ⟨m+1,_,by simp [m2];omega,Nat.le_trans HFS.o.2.1 (by omega),hm1,hfj,B33,D34,R33⟩
       case measure=>simp [m2,intOf];omega
      ·have q7:(f2==f)=false:=by rw [beq_eq_false_iff_ne];exact hff
       simp only [q7];have hne:k≠m∧(m < n→jwF hs ⟨k1,k2,k3,k4⟩ m≠f):=⟨fun e=>hff (by rw [←HK2.o.1,←HK.o.1,e]),fun _ e=>hff (HK2.o.1.symm.trans e)⟩;have HNE:=qh hne;clear hff q7 y0 y1 p0 p1 p2 p3 zp q9 q8 hin hbl HS2 v0 v1 v2 v3 v4 v5 v6 v7 zv hne;go_wp2;go_meet;exact ⟨m,_,by have:=HK2.o.2;congr 1;omega,by have:=HNE.o.1;have:=HFS.o.2.1;omega,HFS.o.2.2,HFS.o.1,HNE.o.2,ja0 HB2.o b31,HR2.o.1.below b31,jwz.below HR2.o.2 b31⟩
     ·have hmn9:m=n:=by omega
      have hkm9:k < m:=by have:=HK.o.2.2.2.1;omega
      have e1:(n:Int) - 1 - (m:Int)= -1:=by omega
      rw [e1];have HMN:=qh (And.intro hmn9 hkm9);clear hfs hkm hmn hb2 hD2 hR2 hm hmn9 hkm9 e1 vf v0 v1 v2 v3 v4 v5 v6 v7 zv;go_upto_region 11 with (fail)
      go_quiet (fail)
      go_wp2;go_meet;exact ⟨m,_,by have:=HMN.o.1;congr 1;omega,HMN.o.2,HFS.o.2.2,HFS.o.1,fun h=>absurd HMN.o.1 (by omega),ja0 HB2.o bi,HR2.o.1.below bi,jwz.below HR2.o.2 bi⟩
   case rest=>
    rename World=>wx
    obtain ⟨m,qm,rfl,hkm,hmn,hfs,hne,hb2,hD2,hR2⟩:=hcut;have _:=bm hb2;have bUx:RowKit.Below U.heap.size U wx:=ja0 HBR.o hb2;have hBx:B≤wx.heap.size:=by rw [←HC.o.2.2.2.2];exact bUx.size
    have hk9:k≤1000:=by have:=HN.o;omega
    have hm9:m≤1000:=by have:=HN.o;omega
    have HZA:=qh (jwT (w:=wx) (B:=B) (ga:=ga) (gd:=gd) (go:=B) (kd:=jwI f) (z:=z) (a1:=(k:Rat)*x) (a2:=(k:Rat)*y) (x1:=(m:Rat)*x) (x2:=(m:Rat)*y)
     (fun V h=>HE.o.below (ja0 HBU.o (bUx.trans (by rw [HC.o.2.2.2.2];exact h))))
     (fun V h=>And.intro (HC.o.2.2.1.below (bUx.trans (by rw [HC.o.2.2.2.2];exact h))) (RepF.below HX.o.2.2 (bUx.trans (by rw [HC.o.2.2.2.2];exact h))))
     (HR.o.1.below hb2) (jwz.below HR.o.2 hb2) hR2.1 hR2.2 (HV.o.1.below hb2) (HV.o.2.below hb2)
     hBx (Nat.le_of_lt HG.o) (Nat.le_refl _) HC.o.2.2.2.1 (Nat.ne_of_gt HG.o) HK.o.2.2.1
     (((jwu hk9).mul HO.o.1).mono (by omega)) (((jwu hk9).mul HO.o.2.1).mono (by omega)) (((jwu hm9).mul HO.o.1).mono (by omega)) (((jwu hm9).mul HO.o.2.1).mono (by omega)) (HO.o.2.2.1.mono (by omega)) (Nat.le_trans HK.o.2.1.len.1 hk9)
     (HW.o.1 k (by omega)).1 (HW.o.1 k (by omega)).2 (HW.o.1 m hmn).1 (HW.o.1 m hmn).2)
    have hrun:=ZR.run HK.o.2.1 hkm hmn (fun j h1 h2=>(hfs j h1 h2).trans HK.o.1.symm) (fun h e=>hne h (e.trans HK.o.1));rw [HK.o.1] at hrun;have HM:=qh (And.intro hkm (And.intro hmn (And.intro bUx hrun)));obtain ⟨⟨⟨s6,A6,n6,c6⟩,t6,B6,m6,d6⟩,⟨⟨s7,A7,n7,c7⟩,t7,B7,m7,d7⟩⟩:=qm;obtain ⟨v0,v1,v2,v3,v4,v5,v6,v7,_⟩:=hD2.sc;dsimp only at v0 v1 v2 v3 v4 v5 v6 v7;have zv:gt < wx.heap.size:=hD2.lt;obtain ⟨kd,hkd⟩:∃t,jwI f=t:=⟨_,rfl⟩;rw [hkd] at HZA;have HKD:=qh hkd;clear hkm hmn hfs hne hb2 hD2 hR2 bUx hBx hk9 hm9 hrun hkd
    go_upto_if 67 with (fail)
    go_cut [19] (fun v wy=>v=bs kd∧wy=wx)
    case first=>
     have hk:=HKD.o;cases f with
     | false=>subst hk;go_wp2;go_meet;exact ⟨rfl,rfl⟩
     | true=>subst hk;go_wp2;go_meet;exact ⟨rfl,rfl⟩
    case rest=>
     obtain ⟨rfl,rfl⟩:=hcut;go_wp2_with (go_at_call 76;(with_reducible refine HZA.o.mono ?_);rintro e41 w41 ⟨v41,q41,rfl,hD41,hR41,hO41,hZ41,hb41,hv41⟩)
     have hik:=HK.o.2.2.2.1;have hkm:=HM.o.1;have bU41:RowKit.Below U.heap.size U w41:=HM.o.2.2.1.trans (by rw [HC.o.2.2.2.2];exact hb41);exact ⟨⟨m,_,v41,q41,rfl,HM.o.2.1,bU41,by rw [HKD.o] at HM;exact HM.o.2.2.2,hD41,hR41,hO41,hZ41,hv41⟩,by simp [intOf];omega⟩
  ·have e1:(n:Int) - 1 - (k:Int)= -1:=by omega
   rw [e1];have hkn9:k=n:=by omega
   have hk9:k≤1000:=by omega
   have HKN:=qh (And.intro hkn9 hZR);have bUR:=hb;have hBU9:=HC.o.2.2.2.2;have hBwr:B≤wr.heap.size:=by rw [←hBU9];exact bUR.size
   have HZA:=qh (fun W (hW:RowKit.Below wr.heap.size wr W)=>jwT (w:=W) (B:=B) (ga:=ga) (gd:=gd) (go:=B) (kd:=[111,108,100]) (z:=z) (qa:=_) (qd:=_) (a1:=(k:Rat)*x) (a2:=(k:Rat)*y) (x1:=z) (x2:=z)
    (fun V h=>HE.o.below (ja0 HBU.o ((ja0 bUR hW).trans (by rw [hBU9];exact h))))
    (fun V h=>And.intro (HC.o.2.2.1.below ((ja0 bUR hW).trans (by rw [hBU9];exact h))) (RepF.below HX.o.2.2 ((ja0 bUR hW).trans (by rw [hBU9];exact h))))
    (hD.below hW) (jwz.below hR hW) (RepF.below HX.o.2.2 (ja0 bUR hW)) (RepF.below HX.o.2.2 (ja0 bUR hW)) (hO.below hW) (hV.below hW)
    (Nat.le_trans hBwr hW.size) (Nat.le_of_lt HG.o) (Nat.le_refl _) HC.o.2.2.2.1 (Nat.ne_of_gt HG.o) hne
    (((jwu hk9).mul HO.o.1).mono (by omega)) (((jwu hk9).mul HO.o.2.1).mono (by omega)) (HO.o.2.2.1.mono (by omega)) (HO.o.2.2.1.mono (by omega)) (HO.o.2.2.1.mono (by omega)) (Nat.le_trans hZR.len.1 hk9)
    (HW.o.1 k hkn).1 (HW.o.1 k hkn).2 (by unfold jwt;split <;> exact HW.o.2) (by unfold jwt;split <;> exact HW.o.2))
   obtain ⟨r0,r1,r2,r3,rf⟩:=HC.o.2.2.1.below bUR;dsimp only at r0 r1 r2 r3;have zr:gd < wr.heap.size:=World.block_lt_of_cell? wr _ r0;have HBR:=qh hb;clear hb hZR hD hR hO hV hne hkn hi e1 hkn9 hk9 bUR hBU9 hBwr rf;go_wp2_with (go_at_call 76;(with_reducible refine (HZA.o _ bi).mono ?_);rintro e41 w41 ⟨v41,q41,rfl,hD41,hR41,hO41,hZ41,hb41,hv41⟩;obtain ⟨A42,c42,e42,hZ42⟩:=hZ41.znv;subst e42;obtain ⟨o1,of1⟩:=hO41.cell;have zo:B < w41.heap.size:=hO41.lt)
   go_ret2;have hk:=HKN.o.1;have hbU:RowKit.Below U.heap.size U w41:=(ja0 HBR.o (show RowKit.Below wr.heap.size wr _ from bi)).trans (by rw [HC.o.2.2.2.2];exact hb41);subst hk;exact ⟨A42,c42,ps,rfl,HKN.o.2,hZ42,ja0 HBU.o hbU⟩
end

theorem jwY {k:Nat} (h:k≤1000):Dz 4 ((k:Nat):Rat):=⟨by show ((k:Nat):Rat).num.natAbs < 10^4;simp;omega,by show ((k:Nat):Rat).den < 10^4;simp⟩
theorem jyv {x z:Rat} {k:Nat} (h:k≤1000) (dx:Dz 30 x) (dz:Dz 30 z):Dz 34 (frq x z k):=by
 unfold frq jwt;split
 ·exact dz.mono (by omega)
 ·exact ((jwY h).mul dx).mono (by omega)
abbrev T1 (f:FuncId) (s:Value) (r:List UInt8):Prop:=∀W,Calls prog f #[s] W fun e w'=>e= .returned (bs r)∧Below W.heap.size W w'
abbrev T2 (f:FuncId) (s t r:List UInt8):Prop:=∀W,Calls prog f #[bs s,bs t] W fun e w'=>e= .returned (bs r)∧Below W.heap.size W w'
section
variable {w:World} {A B:Option Addr} {n cap m c2:Nat} {hs:List Hr} {c:Clim} {a b d k p q l h:List UInt8} {x y z:Rat}
end
section
variable {w:World} {A B:Option Addr} {n m c d:Nat} {ps qs:List (List UInt8×List UInt8)}
end
end Go.Proofs.YtgplamoekjdilaaGreatDoor
