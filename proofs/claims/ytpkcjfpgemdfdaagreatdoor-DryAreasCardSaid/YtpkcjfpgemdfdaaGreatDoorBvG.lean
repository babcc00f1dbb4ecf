/- Parts. -/
import Derived.Test.YtpkcjfpgemdfdaaGreatDoorBtG
set_option linter.all false
set_option maxRecDepth 100000
set_option maxHeartbeats 8000000
namespace Go.Proofs.YtpkcjfpgemdfdaaGreatDoor
open Go Go.RowKit Go.Proofs.Tryz

section
variable {w:World} {s1 s2 t1 t2:Int} {A1 A2 B1 B2:Option Addr} {n1 n2 c1 c2 m1 m2 d1 d2:Nat} {x y:Rat} {b o:Nat} {q:PT} {x0 y0:Rat}
theorem jyV:Calls prog 95 #[.pointer none, .agg #[.int .i64 s1, .slice A1 n1 c1, .int .i64 t1, .slice B1 m1 d1, .int .i64 s2, .slice A2 n2 c2, .int .i64 t2, .slice B2 m2 d2]] w fun e w'=>e= .returned (.bool true)∧Below w.heap.size w w':=by
 go_enter func95,ntmps95;go_upto_region 1 with (fail)
 have bW:Below w.heap.size w (w.alloc (.cells #[.int .i64 s1, .slice A1 n1 c1, .int .i64 t1, .slice B1 m1 d1, .int .i64 s2, .slice A2 n2 c2, .int .i64 t2, .slice B2 m2 d2] 91)):=bi;obtain ⟨W,hW⟩:∃W,w.alloc (.cells #[.int .i64 s1, .slice A1 n1 c1, .int .i64 t1, .slice B1 m1 d1, .int .i64 s2, .slice A2 n2 c2, .int .i64 t2, .slice B2 m2 d2] 91)=W:=⟨_,rfl⟩;rw [hW] at bW ⊢;have HB:=qh bW;clear hW bW;refine ja1 (fun w'=>Below W.heap.size W w') [] (by kernel_rfl) ?_;refine tl [(0,[], .pointer none),(1,[], .bool true),(2,[], .bool true)] [_,_,_] rfl (by kernel_rfl) pk5 (by intros;simp only [tyq,ppq];go_simp) bq0 ?_;simp only [tlq,ppq];refine ts 3 [] rfl (by kernel_rfl) pk (by rfl) bq0 ?_;simp only [ppq];refine ts 4 [] rfl (by kernel_rfl) pk (by rfl) bq0 ?_;simp only [ppq];refine ts 5 [] rfl (by kernel_rfl) pk (by rfl) bq0 ?_;simp only [ppq];refine ts 6 [] rfl (by kernel_rfl) pk (by rfl) bq0 ?_;simp only [ppq];refine ts 7 [] rfl (by kernel_rfl) pk (by rfl) bq0 ?_;simp only [ppq];refine ts 8 [] rfl (by kernel_rfl) pk (by rfl) bq0 ?_;simp only [ppq];refine ts 9 [] rfl (by kernel_rfl) pk (by rfl) bq0 ?_;simp only [ppq];refine ts 10 [] rfl (by kernel_rfl) pk (by rfl) bq0 ?_;simp only [ppq];refine rd1 11 (by kernel_rfl) rfl (fun K hK=> ?_);go_simp;refine hK.out _ _ (fun _=>bi) ?_;clear hK K;refine rd1 12 (by kernel_rfl) rfl (fun K hK=> ?_);go_simp;refine hK.out _ _ (fun _=>bi) ?_;clear hK K;refine ja2 (by kernel_rfl) ?_ _;go_wp2;go_ret;exact ⟨rfl,ja0 HB.o bi⟩
theorem jz9 {r:Bool} (hq:∀k u,(ptc q)[k]? =some u→w.cell? ⟨b,o+k,none⟩=some u) (hrp:jwy w q (x0,y0)) (hx:RepF w s1 A1 n1 c1 t1 B1 m1 d1 x) (hy:RepF w s2 A2 n2 c2 t2 B2 m2 d2 y) (zx:Sz 600 x∧Sz 600 x0) (zy:Sz 600 y∧Sz 600 y0) (hr:decide (Rq.cmpQ x0 x < 0)=r):
  Calls prog 95 #[.pointer (some ⟨b,o,none⟩), .agg #[.int .i64 s1, .slice A1 n1 c1, .int .i64 t1, .slice B1 m1 d1, .int .i64 s2, .slice A2 n2 c2, .int .i64 t2, .slice B2 m2 d2]] w fun e w'=>e= .returned (.bool r)∧Below w.heap.size w w':=by
 have HQ:=qh hq;have HX:=qh (ai hx hy);have HZ:=qh (ai zx zy);obtain ⟨j,hj⟩:∃j,Rq.cmpQ x0 x=j:=⟨_,rfl⟩;have HJ:=qh hj;rw [hj] at hr;clear hx hy zx zy hj;obtain ⟨⟨⟨s3,A3,n3,c3⟩,t3,B3,m3,d3⟩,⟨⟨s4,A4,n4,c4⟩,t4,B4,m4,d4⟩⟩:=q;obtain ⟨hrx,hry⟩:=hrp;have HRX:=qh (ai hrx hry);clear hrx hry;go_enter func95,ntmps95;go_upto_region 1 with (fail)
 have bW:Below w.heap.size w (w.alloc (.cells #[.int .i64 s1, .slice A1 n1 c1, .int .i64 t1, .slice B1 m1 d1, .int .i64 s2, .slice A2 n2 c2, .int .i64 t2, .slice B2 m2 d2] 91)):=bi;have hpb:∀k u,(ptc (((s1,A1,n1,c1),t1,B1,m1,d1),((s2,A2,n2,c2),t2,B2,m2,d2)))[k]? =some u→(w.alloc (.cells #[.int .i64 s1, .slice A1 n1 c1, .int .i64 t1, .slice B1 m1 d1, .int .i64 s2, .slice A2 n2 c2, .int .i64 t2, .slice B2 m2 d2] 91)).cell? ⟨w.heap.size,k,none⟩=some u:=fun k u hu=>by simpa [go_sem,ptc,fts] using hu
 obtain ⟨W,hW⟩:∃W,w.alloc (.cells #[.int .i64 s1, .slice A1 n1 c1, .int .i64 t1, .slice B1 m1 d1, .int .i64 s2, .slice A2 n2 c2, .int .i64 t2, .slice B2 m2 d2] 91)=W:=⟨_,rfl⟩;rw [hW] at bW hpb ⊢;obtain ⟨g,hg⟩:∃g,w.heap.size=g:=⟨_,rfl⟩;rw [hg] at hpb ⊢;have k0:=ja9 bW (HQ.o 0 _ rfl);have k1:=ja9 bW (HQ.o 1 _ rfl);have k2:=ja9 bW (HQ.o 2 _ rfl);have k3:=ja9 bW (HQ.o 3 _ rfl)
 (try rw [Nat.add_zero] at k0)
 have e0:=hpb 0 _ rfl;have e1:=hpb 1 _ rfl;have e2:=hpb 2 _ rfl;have e3:=hpb 3 _ rfl;have zb:=World.block_lt_of_cell? W _ k0;have zg:=World.block_lt_of_cell? W _ e0;dsimp only at zb zg;have HB:=qh bW;clear hW hg bW hpb hq;refine ja1 (fun w'=>Below W.heap.size W w') [] (by kernel_rfl) ?_;refine tl [(0,[], .pointer (some ⟨b,o,none⟩)),(1,[], .bool false),(2,[], .bool false),(3,[], .pointer (some ⟨b,o,none⟩)),(4,[], .pointer (some ⟨b,o,none⟩)),(5,[], .pointer (some ⟨b,o,none⟩)),(6,[],fv s3 A3 n3 c3 t3 B3 m3 d3),(7,[], .pointer (some ⟨g,0,none⟩))] [_,_,_,_,_,_,_,_] rfl (by kernel_rfl) pk5 (by intros;simp only [tyq,ppq];go_simp) bq0 ?_;simp only [tlq,ppq];refine tb 8 (fv s1 A1 n1 c1 t1 B1 m1 d1) [] rfl (by kernel_rfl) pk rfl (by intros;go_simp) bq0 ?_;simp only [ppq];refine rd1 9 (by kernel_rfl) rfl (fun K hK=> ?_);go_simp;go_wp2_with (go_at_call 41;(with_reducible refine mo0 (jd7 600 600 HJ.o (RepF.below HRX.o.1 (ja0 HB.o bi)) (RepF.below HX.o.1 (ja0 HB.o bi)) HZ.o.1.2 HZ.o.1.1 (by omega)) fun w7 hb7 hc7 hf7 _=> ?_))
 have sS7:=qh (bst bq0 hb7);refine hK.out _ _ (fun _=>sS7.o) ?_;clear hK K;refine rd1 10 (by kernel_rfl) rfl (fun K hK=> ?_);go_simp;refine hK.out _ _ (fun _=>bi) ?_;clear hK K;refine rd1 11 (by kernel_rfl) rfl (fun K hK=> ?_);go_simp;refine hK.out _ _ (fun _=>bi) ?_;clear hK K;refine rd1 12 (by kernel_rfl) rfl (fun K hK=> ?_);go_simp;refine hK.out _ _ (fun _=>bi) ?_;clear hK K;refine ja2 (by kernel_rfl) ?_ _;go_wp2;go_ret;exact ⟨rfl,ja0 HB.o bi⟩
end

def ptv (q:PT):Value:= .agg (ptc q).toArray
def jzQ (hold:Nat→Nat→Bool) (er:Nat→Int) (m i:Nat):Int:=jar (fun j=>if hold j i then 0 else er j) (List.range m)
section
variable {w:World} {A B:Option Addr} {n c m d:Nat} {qs:List (Rat×Rat)} {b o bc oc:Nat} {pt:Nat→PT} {fs:Nat→FuncId} {er:Nat→Int} {hold:Nat→Nat→Bool}
set_option maxHeartbeats 16000000 in
theorem jzh {R:Int} (hn:n≤100) (hm:m≤100) (hbl:b < w.heap.size) (hbc:bc < w.heap.size)
  (hp:∀i,i < n→∀k u,(ptc (pt i))[k]? =some u→w.cell? ⟨b,o+i*8+k,none⟩=some u)
  (hc:∀j,j < m→w.cell? ⟨bc,oc+j*2,none⟩=some (.func (.func (fs j)) #[] #[])∧w.cell? ⟨bc,oc+j*2+1,none⟩=some (.int .i64 (er j)))
  (h0:∀j,j < m→0 < n→∀W,Below w.heap.size w W→Calls prog (fs j) #[.pointer none,ptv (pt 0)] W fun e w'=>e= .returned (.bool (hold j 0))∧Below W.heap.size W w')
  (hs:∀j,j < m→∀i,i+1 < n→∀W,Below w.heap.size w W→Calls prog (fs j) #[.pointer (some ⟨b,o+i*8,none⟩),ptv (pt (i+1))] W fun e w'=>e= .returned (.bool (hold j (i+1)))∧Below W.heap.size W w')
  (hf:∀j,j < m→fs j=95∨fs j=63∨fs j=62) (he:∀j,j < m→er j≠0) (hR:jar (jzQ hold er m) (List.range n)=R):
  Calls prog 61 #[.slice (some ⟨b,o,none⟩) n c, .slice (some ⟨bc,oc,none⟩) m d] w fun e w'=>e= .returned (.int .i64 R)∧Below w.heap.size w w':=by
 have HN:=qh (ai hn hm);have HP:=qh hp;have HC:=qh hc;have H0:=qh h0;have HS:=qh hs;have HE:=qh he;have HFS:=qh hf;have HR:=qh hR;have HB:=qh (ai hbl hbc);clear hn hm hbl hbc hp hc h0 hs he hR hf;go_enter func61,ntmps61;go_wp2
 go_loopw [11] (fun u wr=>∃(i:Nat),u= .int .i64 (i:Int)∧i≤n∧Below w.heap.size w wr∧jar (jzQ hold er m) ((List.range n).drop i)=R) (fun u _=>n - (intOf u).toNat)
 case atStart=>exact ⟨0,rfl,Nat.zero_le _,bi,HR.o⟩
 case round=>
  obtain ⟨i,rfl,hin,hb,hI⟩:=hrel;have _:=bm hb;obtain ⟨hnn,hmm⟩:=HN.o;by_cases hi:i < n
  ·have q0:decide ((i:Int) < (n:Int))=true:=by simp;exact hi
   have q9:decide (i < n)=true:=by simpa using hi
   rw [jfU hi] at hI;have HI:=qh (ai hi hI);have HBB:=qh hb;obtain ⟨hbl,hbc⟩:=HB.o;obtain ⟨pb,hpb⟩:∃v:Value,(if i=0 then Value.pointer none else .pointer (some ⟨b,o+(i - 1)*8,none⟩))=v:=⟨_,rfl⟩
   have HK:=qh (show ∀j,j < m→∀W,Below w.heap.size w W→Calls prog (fs j) #[pb,ptv (pt i)] W fun e w'=>e= .returned (.bool (hold j i))∧Below W.heap.size W w' from fun j hj W hW=>by
    rw [←hpb];by_cases z:i=0
    ·subst z;exact H0.o j hj hi W hW
    ·rw [if_neg z];have:=HS.o j hj (i - 1) (by omega) W hW
     rwa [show i - 1+1=i by omega] at this)
   have HPB:=qh hpb;have HPI:=qh (fun k u h=>ja9 hb (HP.o i hi k u h));clear hI hpb hin
   go_upto_if 15 with (fail)
   go_cut [6] (fun v wx=>v=pb∧RowKit.Below wr.heap.size wr wx)
   case first=>
    have hpb:=HPB.o;by_cases z:i=0
    ·subst z;rw [if_pos rfl] at hpb;subst hpb;go_wp2;go_meet;exact ⟨rfl,bi⟩
    ·rw [if_neg z] at hpb;subst hpb;have z1:0 < i:=by omega
     have p1:decide (0 < i)=true:=by simpa using z1
     have p2:decide ((0:Int) < (i:Int))=true:=by rw [decide_eq_true_iff];omega
     have m1:wrap64 ((i:Int) - 1)=((i - 1:Nat):Int):=by unfold wrap64;omega
     have hi1:i - 1 < n:=by omega
     go_wp2;go_meet;exact ⟨rfl,bi⟩
   case rest=>
    rename World=>wx
    obtain ⟨rfl,bx⟩:=hcut;obtain ⟨M,hM⟩:∃M,jzQ hold er m i=M:=⟨_,rfl⟩;have HM:=qh hM;have HI:=qh (show i < n∧(if M=0 then jar (jzQ hold er m) ((List.range n).drop (i+1)) else M)=R from hM ▸ HI.o);have HBX:=qh (ja0 HBB.o bx);obtain ⟨P,hP⟩:∃P,pt i=P:=⟨_,rfl⟩;rw [hP] at HK HPI;have HPX:=qh (fun k u h=>ja9 bx (HPI.o k u h));obtain ⟨⟨⟨s1,A1,n1,c1⟩,t1,B1,m1,d1⟩,⟨⟨s2,A2,n2,c2⟩,t2,B2,m2,d2⟩⟩:=P;have HKK:=qh (show ∀j,j < m→∀W,Below w.heap.size w W→Calls prog (fs j) #[u6, .agg #[.int .i64 s1, .slice A1 n1 c1, .int .i64 t1, .slice B1 m1 d1, .int .i64 s2, .slice A2 n2 c2, .int .i64 t2, .slice B2 m2 d2]] W fun e w'=>e= .returned (.bool (hold j i))∧Below W.heap.size W w' from fun j hj W h=>HK.o j hj W h);clear HK HPI hP hM bx hb q0 q9;go_wp2
    go_loopw [22] (fun u wy=>∃(j:Nat),u= .int .i64 (j:Int)∧j≤m∧RowKit.Below wx.heap.size wx wy∧jar (fun j=>if hold j i then 0 else er j) ((List.range m).drop j)=M) (fun u _=>m - (intOf u).toNat)
    case atStart=>exact ⟨0,rfl,Nat.zero_le _,Below.refl _ _,HM.o⟩
    case round=>
     obtain ⟨j,rfl,hjm,hbj,hJ⟩:=hrel;have _:=bm hbj;obtain ⟨hi,hI⟩:=HI.o;by_cases hj:j < m
     ·have q1:decide ((j:Int) < (m:Int))=true:=by simp;exact hj
      have q8:decide (j < m)=true:=by simpa using hj
      have q9:decide (i < n)=true:=by simpa using hi
      rw [jfU hj] at hJ;obtain ⟨f,hf⟩:∃f,hold j i=f:=⟨_,rfl⟩;have hK:=HKK.o j hj;rw [hf] at hJ hK;have HK:=qh hK;have HJ:=qh hJ;have bwy:=ja0 HBX.o hbj;obtain ⟨k0,k1⟩:=HC.o j hj;replace k0:=ja9 bwy k0;replace k1:=ja9 bwy k1;have HBJ:=qh hbj;have HJJ:=qh (ai hj (ai hi hI));clear hK hJ hf hbj hjm hI;go_upto_region 10 with (fail)
      have v0:(wr.alloc (.cells #[.func (.func (fs j)) #[] #[], .int .i64 (er j)] 114)).cell? ⟨wr.heap.size,0,none⟩=some (.func (.func (fs j)) #[] #[]):=by simp
      have v1:(wr.alloc (.cells #[.func (.func (fs j)) #[] #[], .int .i64 (er j)] 114)).cell? ⟨wr.heap.size,1,none⟩=some (.int .i64 (er j)):=by simp
      have bV:RowKit.Below wr.heap.size wr (wr.alloc (.cells #[.func (.func (fs j)) #[] #[], .int .i64 (er j)] 114)):=bA bR;obtain ⟨V,hV⟩:∃V,wr.alloc (.cells #[.func (.func (fs j)) #[] #[], .int .i64 (er j)] 114)=V:=⟨_,rfl⟩;rw [hV] at v0 v1 bV ⊢;obtain ⟨gc,hgc⟩:∃g,wr.heap.size=g:=⟨_,rfl⟩;rw [hgc] at v0 v1 ⊢;have HBV:=qh (ja0 bwy bV);have HBVX:=qh (ja0 HBJ.o bV);have hpx:=fun k u h=>ja9 (ja0 HBJ.o bV) (HPX.o k u h)
      have e0:=hpx 0 _ rfl;have e1:=hpx 1 _ rfl;have e2:=hpx 2 _ rfl;have e3:=hpx 3 _ rfl;have e4:=hpx 4 _ rfl;have e5:=hpx 5 _ rfl;have e6:=hpx 6 _ rfl;have e7:=hpx 7 _ rfl;rw [Nat.add_zero] at e0;have zc:=World.block_lt_of_cell? V _ v0;have zb:=World.block_lt_of_cell? V _ e0;dsimp only at zc zb;clear hV hgc k0 k1 bV hpx bwy hbl hbc;refine ja1 (fun w'=>Below V.heap.size V w') [] (by kernel_rfl) ?_;refine tl [(0,[], .pointer (some ⟨gc,0,none⟩)),(1,[], .func (.func (fs j)) #[] #[]),(2,[],u6),(3,[], .slice (some ⟨b,o,none⟩) n c),(4,[], .int .i64 (i:Int)),(5,[], .pointer (some ⟨b,o+i*8,none⟩)),(6,[], .agg #[.int .i64 s1, .slice A1 n1 c1, .int .i64 t1, .slice B1 m1 d1, .int .i64 s2, .slice A2 n2 c2, .int .i64 t2, .slice B2 m2 d2])] [_,_,_,_,_,_,_] rfl (by kernel_rfl) pk5 (by intros;simp only [tyq,ppq];go_simp) bq0 ?_;simp only [tlq,ppq];clear v0 e0 e1 e2 e3 e4 e5 e6 e7;obtain ⟨hj,hi,hI⟩:=HJJ.o;have hff:=HFS.o j hj;have hej:=HE.o j hj;obtain ⟨F,hF⟩:∃F,fs j=F:=⟨_,rfl⟩;rw [hF] at hff HK;simp only [hF];have HEJ:=qh hej;have HII:=qh hI;clear hF hej hI;have hnn:=HN.o;rcases hff with rfl|rfl|rfl
      ·refine rd1 7 (by kernel_rfl) rfl (fun K hK=> ?_);go_simp;go_wp2_with (go_at_call 95;(with_reducible refine mo0 (HK.o _ (ja0 HBV.o bi)) fun w5 hb5 hc5 hf5 _=> ?_))
       have sS5:=qh (bst bq0 hb5);refine hK.out _ _ (fun _=>sS5.o) ?_;clear hK K;refine rd1 8 (by kernel_rfl) rfl (fun K hK=> ?_);go_simp;refine hK.out _ _ (fun _=>bi) ?_;clear hK K;refine ja2 (by kernel_rfl) ?_ _;have b5:RowKit.Below V.heap.size V w5:=bi;cases f with
       | true=>
         have HJ2:=qh (show jar (fun j=>if hold j i then 0 else er j) ((List.range m).drop (j+1))=M by have:=HJ.o;simpa using this);have HB5:=qh (ja0 HBVX.o b5);clear b5 v1;go_wp2;exact ⟨⟨j+1,by simp,hj,HB5.o,HJ2.o⟩,by simp [intOf];omega⟩
       | false=>
         have hM0:er j=M:=by have:=HJ.o;simpa [HEJ.o] using this
         have hM1:M=R:=by have:=HII.o;rwa [if_neg (by rw [←hM0];exact HEJ.o)] at this
         rw [hM1] at hM0;replace v1:=ja9 b5 v1;rw [hM0] at v1;have HB5:=qh (ja0 HBV.o b5);clear b5 hM0 hM1 hc5 hf5 hb5;go_wp2;go_ret;exact ⟨rfl,HB5.o⟩
      ·refine rd1 7 (by kernel_rfl) rfl (fun K hK=> ?_);go_simp;go_wp2_with (go_at_call 63;(with_reducible refine mo0 (HK.o _ (ja0 HBV.o bi)) fun w5 hb5 hc5 hf5 _=> ?_))
       have sS5:=qh (bst bq0 hb5);refine hK.out _ _ (fun _=>sS5.o) ?_;clear hK K;refine rd1 8 (by kernel_rfl) rfl (fun K hK=> ?_);go_simp;refine hK.out _ _ (fun _=>bi) ?_;clear hK K;refine ja2 (by kernel_rfl) ?_ _;have b5:RowKit.Below V.heap.size V w5:=bi;cases f with
       | true=>
         have HJ2:=qh (show jar (fun j=>if hold j i then 0 else er j) ((List.range m).drop (j+1))=M by have:=HJ.o;simpa using this);have HB5:=qh (ja0 HBVX.o b5);clear b5 v1;go_wp2;exact ⟨⟨j+1,by simp,hj,HB5.o,HJ2.o⟩,by simp [intOf];omega⟩
       | false=>
         have hM0:er j=M:=by have:=HJ.o;simpa [HEJ.o] using this
         have hM1:M=R:=by have:=HII.o;rwa [if_neg (by rw [←hM0];exact HEJ.o)] at this
         rw [hM1] at hM0;replace v1:=ja9 b5 v1;rw [hM0] at v1;have HB5:=qh (ja0 HBV.o b5);clear b5 hM0 hM1 hc5 hf5 hb5;go_wp2;go_ret;exact ⟨rfl,HB5.o⟩
      ·refine rd1 7 (by kernel_rfl) rfl (fun K hK=> ?_);go_simp;go_wp2_with (go_at_call 62;(with_reducible refine mo0 (HK.o _ (ja0 HBV.o bi)) fun w5 hb5 hc5 hf5 _=> ?_))
       have sS5:=qh (bst bq0 hb5);refine hK.out _ _ (fun _=>sS5.o) ?_;clear hK K;refine rd1 8 (by kernel_rfl) rfl (fun K hK=> ?_);go_simp;refine hK.out _ _ (fun _=>bi) ?_;clear hK K;refine ja2 (by kernel_rfl) ?_ _;have b5:RowKit.Below V.heap.size V w5:=bi;cases f with
       | true=>
         have HJ2:=qh (show jar (fun j=>if hold j i then 0 else er j) ((List.range m).drop (j+1))=M by have:=HJ.o;simpa using this);have HB5:=qh (ja0 HBVX.o b5);clear b5 v1;go_wp2;exact ⟨⟨j+1,by simp,hj,HB5.o,HJ2.o⟩,by simp [intOf];omega⟩
       | false=>
         have hM0:er j=M:=by have:=HJ.o;simpa [HEJ.o] using this
         have hM1:M=R:=by have:=HII.o;rwa [if_neg (by rw [←hM0];exact HEJ.o)] at this
         rw [hM1] at hM0;replace v1:=ja9 b5 v1;rw [hM0] at v1;have HB5:=qh (ja0 HBV.o b5);clear b5 hM0 hM1 hc5 hf5 hb5;go_wp2;go_ret;exact ⟨rfl,HB5.o⟩
     ·have q1:decide (j < m)=false:=by simp;omega
      rw [List.drop_eq_nil_of_le (by rw [List.length_range];omega)] at hJ;have hM0:M=0:=by rw [←hJ];rfl
      subst hM0;rw [if_pos rfl] at hI;have HII:=qh (ai hi hI);have HBJ:=qh (ja0 HBX.o hbj);clear hJ hI hj hbj;go_wp2
      go_roundw
      case rel=>exact ⟨i+1,by simp,HII.o.1,HBJ.o,HII.o.2⟩
      case measure=>have:=HII.o.1;simp [intOf];omega
  ·have q0:decide (i < n)=false:=by simp;omega
   rw [List.drop_eq_nil_of_le (by rw [List.length_range];omega)] at hI;have hR0:R=0:=by rw [←hI];rfl
   subst hR0;clear hI hi;go_wp2;go_ret;exact ⟨rfl,hb⟩
end
end Go.Proofs.YtpkcjfpgemdfdaaGreatDoor
