/- Parts. -/
import Derived.Test.YtonifflnjjcanaaGreatDoorAvG
set_option linter.all false
set_option maxRecDepth 100000
set_option maxHeartbeats 8000000
namespace Go.Proofs.YtonifflnjjcanaaGreatDoor
open Go Go.RowKit Go.Sort Go.Proofs.Tryz

theorem pv2 {w:World} {b:Nat} {x y:List UInt8×List UInt8} (h0:w.cell? ⟨b,0,none⟩=some (bs x.1)) (h1:w.cell? ⟨b,1,none⟩=some (bs x.2)) (h2:w.cell? ⟨b,2,none⟩=some (bs y.1)) (h3:w.cell? ⟨b,3,none⟩=some (bs y.2)):Pv w (some ⟨b,0,none⟩) 2 [x,y]:=
 ⟨rfl,fun _=>⟨b,0,rfl,World.block_lt_of_cell? w _ h0,fun j hj=>by
   match j,hj with
   | 0,_=>exact ⟨h0,h1⟩
   | 1,_=>exact ⟨h2,h3⟩⟩⟩
section
variable {w:World} {A B:Option Addr} {n m c d:Nat} {ps qs:List Zn}
theorem jxg (h:n≠m):Calls prog 13 #[.slice A n c, .slice B m d] w fun e w'=>e= .returned (.bool false)∧Below w.heap.size w w':=by
 have q0:((n:Int)==(m:Int))=false:=by rw [beq_eq_false_iff_ne];omega
 have q1:(n==m)=false:=by rw [beq_eq_false_iff_ne];exact h
 go_enter func13,ntmps13;go_wp2;go_ret;exact ⟨rfl,bi⟩
set_option maxHeartbeats 16000000 in
theorem jxb {r:Bool} (h:Znv w A n ps) (h':Znv w B n qs) (hn:n≤100000) (hr:decide (ps=qs)=r):Calls prog 13 #[.slice A n c, .slice B n d] w fun e w'=>e= .returned (.bool r)∧Below w.heap.size w w':=by
 have H:=qh h;have H':=qh h';have HN:=qh hn;have HR:=qh hr;clear h h' hn hr;go_enter func13,ntmps13;go_wp2
 go_loopw [5] (fun u wr=>∃(i:Nat),u= .int .i64 (i:Int)∧i≤n∧Below w.heap.size w wr∧decide (ps.drop i=qs.drop i)=r) (fun u _=>n - (intOf u).toNat)
 case atStart=>exact ⟨0,rfl,Nat.zero_le _,bi,HR.o⟩
 case round=>
  obtain ⟨i,rfl,hin,hb,hc⟩:=hrel;have _:=bm hb;have hnn:=HN.o;by_cases hi:i < n
  ·have p0:decide (i < n)=true:=by simpa using hi
   obtain ⟨b,o,rfl,hbl,hat⟩:=(H.o.below hb).at_ (by omega);obtain ⟨b',o',rfl,hbl',hat'⟩:=(H'.o.below hb).at_ (by omega);have hx:=hat i hi;have hy:=hat' i hi;rw [jpS (d:=zn0) (by rw [H.o.len];exact hi) (by rw [H'.o.len];exact hi)] at hc;obtain ⟨⟨x0,⟨x1,x2⟩,x3,x4⟩,hx9⟩:∃x,ps.getD i zn0=x:=⟨_,rfl⟩;obtain ⟨⟨y0,⟨y1,y2⟩,y3,y4⟩,hy9⟩:∃x,qs.getD i zn0=x:=⟨_,rfl⟩;rw [hx9] at hx hc;rw [hy9] at hy hc;have k0:=hx 0 (bs x0) rfl;have k1:=hx 1 (bs x1) rfl;have k2:=hx 2 (bs x2) rfl;have k3:=hx 3 (bs x3) rfl;have k4:=hx 4 (bs x4) rfl;have l0:=hy 0 (bs y0) rfl;have l1:=hy 1 (bs y1) rfl;have l2:=hy 2 (bs y2) rfl;have l3:=hy 3 (bs y3) rfl;have l4:=hy 4 (bs y4) rfl;rw [Nat.add_zero] at k0 l0;have HII:=qh hi;have HB:=qh hb;clear hat hat' hx9 hy9 hx hy hb;by_cases hx0:x0=y0
   ·subst hx0;have q0:(x0==x0)=true:=by simp
    have q1:(x0 != x0)=false:=by simp
    obtain ⟨f,hf⟩:∃f,decide ([(x1,x2),(x3,x4)]=[(y1,y2),(y3,y4)])=f:=⟨_,rfl⟩;have HS:=qh (fun (W:World) (A B:Option Addr) (e:Nat) (g:Nat) (h1:Pv W A 2 [(x1,x2),(x3,x4)]) (h2:Pv W B 2 [(y1,y2),(y3,y4)])=>jwF (c:=e) (d:=g) h1 h2 (by omega) hf)
    have HC:Hd ((f=true→decide (ps.drop (i+1)=qs.drop (i+1))=r)∧(f=false→r=false)):=qh ⟨fun e=>by
     rw [e,decide_eq_true_iff] at hf;simp at hf;obtain ⟨⟨rfl,rfl⟩,rfl,rfl⟩:=hf;simpa using hc,fun e=>by
     rw [e,decide_eq_false_iff_not] at hf;rw [←hc,Bool.and_eq_false_iff,decide_eq_false_iff_not]
     exact .inl fun e2=>hf (by simpa [and_assoc] using e2)⟩
    clear hc hf;go_upto_region 6 with (fail)
    refine ja1 (fun w'=>Below wr.heap.size wr w') [] (by kernel_rfl) ?_;refine tl [(0,[2], .slice (some ⟨b,o,none⟩) n c),(1,[2], .int .i64 (i:Int)),(2,[3], .pointer (some ⟨b,o+i*5,none⟩)),(3,[4], .pointer (some ⟨b,o+i*5,none⟩)),(4,[10],bs x0),(5,[7], .slice (some ⟨b',o',none⟩) n d),(6,[7], .int .i64 (i:Int)),(7,[8], .pointer (some ⟨b',o'+i*5,none⟩))] [_,_,_,_,_,_,_,_] rfl (by kernel_rfl) pk5 (by intros;simp only [tyq,ppq];go_simp) bq0 ?_;simp only [tlq,ppq];refine tl [(8,[9], .pointer (some ⟨b',o'+i*5,none⟩)),(9,[10],bs x0),(10,[11], .bool false),(11,[36], .bool false),(12,[14], .slice (some ⟨b,o,none⟩) n c),(13,[14], .int .i64 (i:Int)),(14,[15], .pointer (some ⟨b,o+i*5,none⟩)),(15,[16], .pointer (some ⟨b,o+i*5+1,none⟩))] [_,_,_,_,_,_,_,_] rfl (by kernel_rfl) pk5 (by intros;simp only [tyq,ppq];go_simp) bq0 ?_;simp only [tlq,ppq];refine tl [(16,[22],sp x1 x2),(17,[19], .slice (some ⟨b,o,none⟩) n c),(18,[19], .int .i64 (i:Int)),(19,[20], .pointer (some ⟨b,o+i*5,none⟩)),(20,[21], .pointer (some ⟨b,o+i*5+3,none⟩)),(21,[22],sp x3 x4),(23,[25], .slice (some ⟨b',o',none⟩) n d),(24,[25], .int .i64 (i:Int))] [_,_,_,_,_,_,_,_] rfl (by kernel_rfl) pk5 (by intros;simp only [tyq,ppq];go_simp) bq0 ?_;simp only [tlq,ppq];refine tl [(25,[26], .pointer (some ⟨b',o'+i*5,none⟩)),(26,[27], .pointer (some ⟨b',o'+i*5+1,none⟩)),(27,[33],sp y1 y2),(28,[30], .slice (some ⟨b',o',none⟩) n d),(29,[30], .int .i64 (i:Int)),(30,[31], .pointer (some ⟨b',o'+i*5,none⟩)),(31,[32], .pointer (some ⟨b',o'+i*5+3,none⟩)),(32,[33],sp y3 y4)] [_,_,_,_,_,_,_,_] rfl (by kernel_rfl) pk5 (by intros;simp only [tyq,ppq];go_simp) bq0 ?_;simp only [tlq,ppq];clear k0 k1 k2 k3 k4 l0 l1 l2 l3 l4;refine wa2 22 33 (by kernel_rfl) rfl rfl (fun K hK=> ?o1) (fun K hK=> ?o2)
    case' o1=>
     go_simp;refine hK.out _ _ (fun _=>bi) ?_;clear hK K;refine wa1 33 (by kernel_rfl) rfl (fun K hK=> ?_);go_simp;refine hK.out _ _ (fun _=>bi) ?_;clear hK K;refine wa1 34 (by kernel_rfl) rfl (fun K hK=> ?_);go_simp;go_wp2_with (go_at_call 11;(with_reducible refine mo0 (HS.o _ _ _ _ _ (pv2 (by simp [go_sem]) (by simp [go_sem]) (by simp [go_sem]) (by simp [go_sem])) (pv2 (by simp [go_sem]) (by simp [go_sem]) (by simp [go_sem]) (by simp [go_sem]))) fun w31 hb31 hc31 hf31 _=> ?_))
     refine hK.out _ _ (fun _=>bi) ?_;clear hK K;refine wa1 35 (by kernel_rfl) rfl (fun K hK=> ?_);go_simp;refine hK.out _ _ (fun _=>bi) ?_;clear hK K;refine wa1 36 (by kernel_rfl) rfl (fun K hK=> ?_);go_simp;refine hK.out _ _ (fun _=>bi) ?_;clear hK K
    case' o2=>
     go_simp;refine hK.out _ _ (fun _=>bi) ?_;clear hK K;refine wa1 22 (by kernel_rfl) rfl (fun K hK=> ?_);go_simp;refine hK.out _ _ (fun _=>bi) ?_;clear hK K;refine wa1 34 (by kernel_rfl) rfl (fun K hK=> ?_);go_simp;go_wp2_with (go_at_call 11;(with_reducible refine mo0 (HS.o _ _ _ _ _ (pv2 (by simp [go_sem]) (by simp [go_sem]) (by simp [go_sem]) (by simp [go_sem])) (pv2 (by simp [go_sem]) (by simp [go_sem]) (by simp [go_sem]) (by simp [go_sem]))) fun w31 hb31 hc31 hf31 _=> ?_))
     refine hK.out _ _ (fun _=>bi) ?_;clear hK K;refine wa1 35 (by kernel_rfl) rfl (fun K hK=> ?_);go_simp;refine hK.out _ _ (fun _=>bi) ?_;clear hK K;refine wa1 36 (by kernel_rfl) rfl (fun K hK=> ?_);go_simp;refine hK.out _ _ (fun _=>bi) ?_;clear hK K
    all_goals
     refine ja2 (by kernel_rfl) ?_ _;cases f with
     | true=>
       go_wp2;exact ⟨⟨i+1,by simp,HII.o,ja0 HB.o bi,HC.o.1 rfl⟩,by have:=HII.o;simp [intOf];omega⟩
     | false=>
       obtain rfl:=HC.o.2 rfl;go_wp2;go_ret;exact ⟨rfl,ja0 HB.o bi⟩
   ·have q0:(x0==y0)=false:=by rw [beq_eq_false_iff_ne];exact hx0
    have q1:(x0 != y0)=true:=by rw [bne_iff_ne];exact hx0
    have hR:r=false:=by rw [←hc];simp [hx0]
    subst hR;clear hc;go_upto_region 6 with (fail)
    go_quiet (fail)
    go_wp2;go_ret;exact ⟨rfl,ja0 HB.o bi⟩
  ·have p0:decide (i < n)=false:=by simp;omega
   rw [List.drop_eq_nil_of_le (by rw [H.o.len];omega),List.drop_eq_nil_of_le (by rw [H'.o.len];omega)] at hc;have hR:r=true:=by rw [←hc];rfl
   subst hR;clear hc hi;go_wp2;go_ret;exact ⟨rfl,bi⟩
theorem jwX {r:Bool} (h:Znv w A n ps) (h':Znv w B m qs) (hn:n≤100000) (hr:decide (ps=qs)=r):Calls prog 13 #[.slice A n c, .slice B m d] w fun e w'=>e= .returned (.bool r)∧Below w.heap.size w w':=by
 by_cases e:n=m
 ·subst e;exact jxb h h' hn hr
 ·have:r=false:=by
   rw [←hr,decide_eq_false_iff_not];intro e2;exact e (by rw [←h.len,←h'.len,e2])
  subst this;exact jxg e
end
section
variable {w:World} {A B:Option Addr} {n cap m c2:Nat} {hs:List Hr} {c:Clim} {x y z:Rat}
theorem jxD {f:Rat×Rat→Bool} {l:List (Rat×Rat)} {j:Nat} (h:j < l.length):dix f (l.drop j) j=if f (l.getD j (0,0)) then (j:Int) else dix f (l.drop (j+1)) (j+1):=by
 rw [List.drop_eq_getElem_cons h,List.getD_eq_getElem?_getD,List.getElem?_eq_getElem h];rfl
set_option maxHeartbeats 16000000 in
theorem jxp {R1 R2:Int} (hH:Hv6 w A n hs) (hn:n≤900) (dx:Dz 30 x) (dy:Dz 30 y) (dz:Dz 30 z) (hR1:dix (fun q=>decide (q.2=z)) (frL hs c x y z n) 0=R1) (hR2:dix (fun q=>decide (q.1=z)) (frL hs c x y z n) 0=R2):
  Calls prog 10 #[.slice A n cap,clv c,sp (tq x) (tq y),bs (tq z)] w fun e w'=>e= .returned (.tuple #[.int .i64 R1, .int .i64 R2])∧Below w.heap.size w w':=by
 have HF:=qh (fun W (hb:Below w.heap.size w W)=>jxi (cap:=cap) (c:=c) (hH.below hb) hn dx dy dz);have HN:=qh hn;have HR:=qh (ai hR1 hR2);have hlen:=jxY hs c x y z n;have hts:frT hs c x y z n=(frL hs c x y z n).map fun q=>(tq q.1,tq q.2):=rfl
 rw [hts] at HF;obtain ⟨L,hL⟩:∃l,frL hs c x y z n=l:=⟨_,rfl⟩;rw [hL] at HF HR hlen;obtain ⟨TX,hTX⟩:∃T,tq x=T:=⟨_,rfl⟩;obtain ⟨TY,hTY⟩:∃T,tq y=T:=⟨_,rfl⟩;obtain ⟨TZ,hTZ⟩:∃T,tq z=T:=⟨_,rfl⟩;rw [hTX,hTY,hTZ] at HF ⊢;have HTZ:=qh (ai hTZ hlen);obtain ⟨k1,k2,k3,k4⟩:=c;clear hH hn dx dy dz hTX hTY hTZ hR1 hR2 hts hL hlen;go_enter func10,ntmps10;go_upto_region 3 with (go_at_call 12;(with_reducible refine (HF.o _ bi).mono ?_);rintro e1 w1 ⟨A1,c1,rfl,hP1,hb1⟩;obtain ⟨hc1,hf1,_⟩:=bc0 hb1)
 have HP:=qh hP1;have HB:=qh (show RowKit.Below w.heap.size w w1 from bi);clear hP1 hb1 hc1 hf1 HF;have m1:wrap64 ((n:Int) - 1)=(n:Int) - 1:=by have:=HN.o;unfold wrap64;omega
 go_wp2
 go_loopw [10,11,13] (fun a b u wr=>∃(i:Nat),u= .int .i64 ((i:Int) - 1)∧i≤n∧a= .int .i64 (dix (fun q=>decide (q.2=z)) (L.drop i) i)∧b= .int .i64 (dix (fun q=>decide (q.1=z)) (L.drop i) i)∧RowKit.Below w1.heap.size w1 wr) (fun _ _ u _=>(intOf u+1).toNat)
 case atStart=>exact ⟨n,by simp [m1],Nat.le_refl _,by rw [List.drop_eq_nil_of_le (by rw [HTZ.o.2];exact Nat.le_refl _)];rfl,by rw [List.drop_eq_nil_of_le (by rw [HTZ.o.2];exact Nat.le_refl _)];rfl,bi⟩
 case round=>
  obtain ⟨i,rfl,hin,rfl,rfl,hb⟩:=hrel;have _:=bm hb;clear m1;have hnn:=HN.o;by_cases hi:0 < i
  ·obtain ⟨j,rfl⟩:∃j,i=j+1:=⟨i - 1,by omega⟩;have e1:((j+1:Nat):Int) - 1=(j:Int):=by omega
   rw [e1];have q9:decide (j < n)=true:=by simp;omega
   have hjl:j < L.length:=by rw [HTZ.o.2];omega
   obtain ⟨b,o,rfl,hbl,hcell⟩:=(HP.o.below hb).at_ (by omega);obtain ⟨y0,y1⟩:=hcell j (by omega);rw [show (L.map fun q=>(tq q.1,tq q.2)).getD j ([],[])=(tq (L.getD j (0,0)).1,tq (L.getD j (0,0)).2) by rw [List.getD_eq_getElem?_getD,List.getD_eq_getElem?_getD,List.getElem?_map,List.getElem?_eq_getElem hjl];rfl] at y0 y1;dsimp only at y0 y1;have d1:=jxD (f:=fun q=>decide (q.2=z)) hjl;have d2:=jxD (f:=fun q=>decide (q.1=z)) hjl;obtain ⟨⟨v1,v2⟩,hv⟩:∃v,L.getD j (0,0)=v:=⟨_,rfl⟩;rw [hv] at y0 y1 d1 d2;dsimp only at y0 y1 d1 d2;obtain ⟨g1,hg1⟩:∃g,decide (v2=z)=g:=⟨_,rfl⟩;obtain ⟨g2,hg2⟩:∃g,decide (v1=z)=g:=⟨_,rfl⟩
   have q1:(tq v2==TZ)=g1:=by
    rw [←hg1,←HTZ.o.1,Bool.eq_iff_iff,beq_iff_eq,decide_eq_true_iff];exact ⟨fun e=>jtt e,fun e=>by rw [e]⟩
   have q2:(tq v1==TZ)=g2:=by
    rw [←hg2,←HTZ.o.1,Bool.eq_iff_iff,beq_iff_eq,decide_eq_true_iff];exact ⟨fun e=>jtt e,fun e=>by rw [e]⟩
   rw [hg1] at d1;rw [hg2] at d2;obtain ⟨D1,hD1⟩:∃d,dix (fun q=>decide (q.2=z)) (L.drop (j+1)) (j+1)=d:=⟨_,rfl⟩;obtain ⟨D2,hD2⟩:∃d,dix (fun q=>decide (q.1=z)) (L.drop (j+1)) (j+1)=d:=⟨_,rfl⟩;rw [hD1] at d1 ⊢;rw [hD2] at d2 ⊢;obtain ⟨t1,ht1⟩:∃t,tq v1=t:=⟨_,rfl⟩;obtain ⟨t2,ht2⟩:∃t,tq v2=t:=⟨_,rfl⟩;rw [ht1] at y0 q2;rw [ht2] at y1 q1;have m1:wrap64 ((j:Int) - 1)=(j:Int) - 1:=by unfold wrap64;omega
   have HD:=qh (ai d1 d2);have HJ:=qh hin;have HBR:=qh hb;clear hcell hjl hv hg1 hg2 ht1 ht2 hD1 hD2 hb e1 d1 d2 hi hin;cases g1 <;> cases g2
   all_goals
    go_wp2;exact ⟨⟨j,by simp [m1],by have:=HJ.o;omega,by rw [HD.o.1];rfl,by rw [HD.o.2];rfl,HBR.o⟩,by simp [m1,intOf]⟩
  ·obtain rfl:i=0:=by omega
   have e1:((0:Nat):Int) - 1= -1:=rfl;rw [e1,List.drop_zero,HR.o.1,HR.o.2];clear hi e1;go_wp2;go_ret2;exact ⟨rfl,ja0 HB.o hb⟩
end

section
variable {w:World} {A:Option Addr} {n cap:Nat} {hs:List Hr} {c:Clim} {a b d:List UInt8}
theorem jyA {w W:World} {a b d:List UInt8} {f:Bool} (hs:W.heap.size=w.heap.size+1+1) (h:([a,b,d].all fun l=>decide (l.length≤30))=f):Calls prog 4 #[.slice (some ⟨w.heap.size+1+1,0,none⟩) 3 3] (W.alloc (.cells #[bs a,bs b,bs d] 25)) fun e w'=>e= .returned (.bool f)∧Below (W.alloc (.cells #[bs a,bs b,bs d] 25)).heap.size (W.alloc (.cells #[bs a,bs b,bs d] 25)) w':=by
 rw [←hs];exact jgr (Sv.three W 25 a b d) (by omega) h
set_option maxHeartbeats 32000000 in
theorem jxN {K:Int} (hE:Env w) (h:Hv6 w A n hs) (hn:n≤24) (hl:a.length≤30∧b.length≤30∧d.length≤30) (hK:jxo hs c a b d=K) (h0:K≠0):
  Calls prog 3 #[.slice A n cap,clv c, .agg #[bs a,bs b,bs d]] w fun e w'=>e= .returned (.bool true)∧Below w.heap.size w w':=by
 have HA:=qh (fun W (hb:Below w.heap.size w W)=>hE.awake6 hb);have q0:decide ((24:Int) < (n:Int))=false:=by rw [decide_eq_false_iff_not];omega
 have HF:=qh (fun W (hs:W.heap.size=w.heap.size+1+1)=>jyA (w:=w) (W:=W) (a:=a) (b:=b) (d:=d) (f:=true) hs (by simp [hl]));have H1:=qh (fun W (hb:Below w.heap.size w W)=>jxW (cap:=cap) (hE.below hb) (h.below hb) (by omega) (by omega) (by omega) (by omega) hK h0);have H2:=qh (fun W (hb:Below w.heap.size w W)=>jxs (cap:=cap) (hE.below hb) (h.below hb) (by omega) (by omega) (by omega) (by omega) hK h0);have H3:=qh (fun W (hb:Below w.heap.size w W)=>jxX (cap:=cap) (hE.below hb) (h.below hb) (by omega) (by omega) (by omega) (by omega) hK h0);have H4:=qh (fun W (hb:Below w.heap.size w W)=>jy6 (cap:=cap) (h.below hb) (by omega) hl.1 hl.2.1 hl.2.2 hK);have q4:(K != 0)=true:=by rw [bne_iff_ne];exact h0
 obtain ⟨k1,k2,k3,k4⟩:=c;clear hE h hn hl hK h0;go_enter func3,ntmps3;go_wp2_with (first|(go_at_call 5;(with_reducible refine mo0 (HA.o _ bi) fun w9 hb9 hc9 hf9 _=> ?_))|((go_at_call 4;(with_reducible refine mo0 (HF.o _ (by simp)) fun w1 hb1 hc1 hf1 _=> ?_));have y1_0:=zlt (w.heap.size) hb1;have y1_1:=zlt (w.heap.size+1) hb1)|((go_at_call 6;(with_reducible refine mo0 (H1.o _ bi) fun w2 hb2 hc2 hf2 _=> ?_));have y2_0:=zlt (w.heap.size) hb2;have y2_1:=zlt (w.heap.size+1) hb2)|((go_at_call 7;(with_reducible refine mo0 (H2.o _ bi) fun w3 hb3 hc3 hf3 _=> ?_));have y3_0:=zlt (w.heap.size) hb3;have y3_1:=zlt (w.heap.size+1) hb3)|((go_at_call 8;(with_reducible refine mo0 (H3.o _ bi) fun w4 hb4 hc4 hf4 _=> ?_));have y4_0:=zlt (w.heap.size) hb4;have y4_1:=zlt (w.heap.size+1) hb4)|((go_at_call 9;(with_reducible refine mo0 (H4.o _ bi) fun w5 hb5 hc5 hf5 _=> ?_));have y5_0:=zlt (w.heap.size) hb5;have y5_1:=zlt (w.heap.size+1) hb5))
 go_ret;exact ⟨rfl,bi⟩
set_option maxHeartbeats 32000000 in
theorem jxv (hE:Env w) (h:Hv6 w A n hs) (hn:n≤24) (hl:a.length≤30∧b.length≤30∧d.length≤30) (hK:jxo hs c a b d=0):
  Calls prog 3 #[.slice A n cap,clv c, .agg #[bs a,bs b,bs d]] w fun e w'=>e= .returned (.bool true)∧Below w.heap.size w w':=by
 have HA:=qh (fun W (hb:Below w.heap.size w W)=>hE.awake6 hb);have q0:decide ((24:Int) < (n:Int))=false:=by rw [decide_eq_false_iff_not];omega
 have HF:=qh (fun W (hs:W.heap.size=w.heap.size+1+1)=>jyA (w:=w) (W:=W) (a:=a) (b:=b) (d:=d) (f:=true) hs (by simp [hl]));have ho:=jx5 hK;obtain ⟨x,hx⟩:∃x,numQ a=x:=⟨_,rfl⟩;obtain ⟨y,hy⟩:∃x,numQ b=x:=⟨_,rfl⟩;obtain ⟨z,hz⟩:∃x,numQ d=x:=⟨_,rfl⟩;have Na:=ho.na;have Nb:=ho.nb;have Nd:=ho.nd;rw [hx] at Na;rw [hy] at Nb;rw [hz] at Nd;have dx:=Na.dzl hl.1 (by omega);have dy:=Nb.dzl hl.2.1 (by omega);have dz:=Nd.dzl hl.2.2 (by omega);have hW:∀k,k≤n→Wr (frq x z k)∧Wr (frq y z k):=fun k hk=>⟨(jyo (by omega) dx dz).wr (by omega) (by omega),(jyo (by omega) dy dz).wr (by omega) (by omega)⟩
 obtain ⟨R1,hR1⟩:∃R,dix (fun q=>decide (q.2=z)) (frL hs c x y z n) 0=R:=⟨_,rfl⟩;obtain ⟨R2,hR2⟩:∃R,dix (fun q=>decide (q.1=z)) (frL hs c x y z n) 0=R:=⟨_,rfl⟩;have H1:=qh (fun W (hb:Below w.heap.size w W)=>jyg (cap:=cap) (hE.below hb) (h.below hb) (by omega) (by omega) (by omega) (by omega) hx hy hz hK hW);have H2:=qh (fun W (hb:Below w.heap.size w W)=>jxJ (cap:=cap) (hE.below hb) (h.below hb) (by omega) (by omega) (by omega) (by omega) hx hy hz hK hR1 hR2);have H3:=qh (fun W (hb:Below w.heap.size w W)=>jyj (cap:=cap) (hE.below hb) (h.below hb) (by omega) (by omega) (by omega) (by omega) hx hy hz hK hW (dz.wr (by omega) (by omega)));have H4:=qh (fun W (hb:Below w.heap.size w W)=>jy6 (cap:=cap) (h.below hb) (by omega) hl.1 hl.2.1 hl.2.2 hK);have H5:=qh (fun W (hb:Below w.heap.size w W)=>jxp (cap:=cap) (h.below hb) (by omega) dx dy dz hR1 hR2);have H6:=qh (fun W (hb:Below w.heap.size w W)=>jxi (cap:=cap) (c:=c) (h.below hb) (by omega) dx dy dz);have H7:=qh (fun W (hb:Below w.heap.size w W)=>jy3 (cap:=cap) (c:=c) (h.below hb) (by omega) dx dy dz);rw [←Na.eq,←Nb.eq,←Nd.eq] at H5 H6 H7;have HN:=qh hn;obtain ⟨k1,k2,k3,k4⟩:=c;obtain ⟨FT,hFT⟩:∃l,frT hs ⟨k1,k2,k3,k4⟩ x y z n=l:=⟨_,rfl⟩;rw [hFT] at H1 H6;have hzl:∀ps,ZR hs ⟨k1,k2,k3,k4⟩ x y z n n ps→(jx8 ps [111,108,100] ((n:Rat)*x) ((n:Rat)*y) z z z).length≤100000:=fun ps h=>Nat.le_trans (jxF _ _ _ _ _ _ _) (by have:=h.len.1;omega)
 have HZL:=qh hzl;clear hE h hn hl hK ho hx hy hz Na Nb Nd dx dy dz hW hR1 hR2 hFT hzl;go_enter func3,ntmps3;go_upto_region 10 with (first|((go_at_call 4;(with_reducible refine mo0 (HF.o _ (by simp)) fun w1 hb1 hc1 hf1 _=> ?_));have y1_0:=zlt (w.heap.size) hb1;have y1_1:=zlt (w.heap.size+1) hb1)|(go_at_call 6;(with_reducible refine (H1.o _ bi).mono ?_);rintro e2 w2 ⟨A2,c2,rfl,hP2,hb2⟩;obtain ⟨hc2,hf2,_⟩:=bc0 hb2;have y2_0:=zlt (w.heap.size) hb2;have y2_1:=zlt (w.heap.size+1) hb2)|((go_at_call 7;(with_reducible refine mo0 (H2.o _ bi) fun w3 hb3 hc3 hf3 _=> ?_));have y3_0:=zlt (w.heap.size) hb3;have y3_1:=zlt (w.heap.size+1) hb3)|(go_at_call 8;(with_reducible refine (H3.o _ bi).mono ?_);rintro e4 w4 ⟨A4,c4,ps4,rfl,hR4,hP4,hb4⟩;obtain ⟨hc4,hf4,_⟩:=bc0 hb4;have y4_0:=zlt (w.heap.size) hb4;have y4_1:=zlt (w.heap.size+1) hb4)|((go_at_call 9;(with_reducible refine mo0 (H4.o _ bi) fun w5 hb5 hc5 hf5 _=> ?_));have y5_0:=zlt (w.heap.size) hb5;have y5_1:=zlt (w.heap.size+1) hb5)|((go_at_call 10;(with_reducible refine mo0 (H5.o _ bi) fun w6 hb6 hc6 hf6 _=> ?_));have y6_0:=zlt (w.heap.size) hb6;have y6_1:=zlt (w.heap.size+1) hb6))
 go_wp2_with (first|(go_at_call 5;(with_reducible refine mo0 (HA.o _ bi) fun w9 hb9 hc9 hf9 _=> ?_))|(go_at_call 12;(with_reducible refine (H6.o _ bi).mono ?_);rintro e10 w10 ⟨A10,c10,rfl,hP10,hb10⟩;obtain ⟨hc10,hf10,_⟩:=bc0 hb10;have y10_0:=zlt (w.heap.size) hb10;have y10_1:=zlt (w.heap.size+1) hb10)|((go_at_call 11;(with_reducible refine mo0 (jwF (hP2.below bi) hP10 (Nat.le_trans HN.o (by omega)) (decide_eq_true rfl)) fun w11 hb11 hc11 hf11 _=> ?_));have y11_0:=zlt (w.heap.size) hb11;have y11_1:=zlt (w.heap.size+1) hb11)|(go_at_call 14;(with_reducible refine (H7.o _ bi).mono ?_);rintro e12 w12 ⟨A12,c12,ps12,rfl,hR12,hP12,hb12⟩;have _:=bm hb12;obtain rfl:=hR4.det hR12;obtain ⟨hc12,hf12,_⟩:=bc0 hb12;have y12_0:=zlt (w.heap.size) hb12;have y12_1:=zlt (w.heap.size+1) hb12)|((go_at_call 13;(with_reducible refine mo0 (jwX (hP4.below bi) hP12 (HZL.o _ hR4) (decide_eq_true rfl)) fun w13 hb13 hc13 hf13 _=> ?_));have y13_0:=zlt (w.heap.size) hb13;have y13_1:=zlt (w.heap.size+1) hb13))
 go_ret;exact ⟨rfl,bi⟩
set_option maxHeartbeats 16000000 in
theorem jxr (hE:Env w) (h:Hv6 w A n hs) (_:n≤cap) (c:Clim):
  Calls prog 3 #[.slice A n cap,clv c, .agg #[bs a,bs b,bs d]] w fun e w'=>e= .returned (.bool true)∧Below w.heap.size w w':=by
 by_cases g0:24 < n
 ·have HA:=qh (fun W (hb:Below w.heap.size w W)=>hE.awake6 hb);have q0:decide ((24:Int) < (n:Int))=true:=by rw [decide_eq_true_iff];omega
  obtain ⟨k1,k2,k3,k4⟩:=c;clear hE h g0;go_enter func3,ntmps3;go_wp2_with (first|(go_at_call 5;(with_reducible refine mo0 (HA.o _ bi) fun w9 hb9 hc9 hf9 _=> ?_)))
  go_ret;exact ⟨rfl,bi⟩
 ·by_cases hl:a.length≤30∧b.length≤30∧d.length≤30
  ·by_cases hK:jxo hs c a b d=0
   ·exact jxv hE h (by omega) hl hK
   ·exact jxN hE h (by omega) hl rfl hK
  ·have HA:=qh (fun W (hb:Below w.heap.size w W)=>hE.awake6 hb);have q0:decide ((24:Int) < (n:Int))=false:=by rw [decide_eq_false_iff_not];omega
   have HF:=qh (fun W (hs:W.heap.size=w.heap.size+1+1)=>jyA (w:=w) (W:=W) (a:=a) (b:=b) (d:=d) (f:=false) hs (by
    rw [List.all_eq_false];by_cases h1:a.length≤30
    ·by_cases h2:b.length≤30
     ·exact ⟨d,by simp,by simp;omega⟩
     ·exact ⟨b,by simp,by simp;omega⟩
    ·exact ⟨a,by simp,by simp;omega⟩))
   obtain ⟨k1,k2,k3,k4⟩:=c;clear hE h g0 hl;go_enter func3,ntmps3;go_wp2_with (first|(go_at_call 5;(with_reducible refine mo0 (HA.o _ bi) fun w9 hb9 hc9 hf9 _=> ?_))|((go_at_call 4;(with_reducible refine mo0 (HF.o _ (by simp)) fun w1 hb1 hc1 hf1 _=> ?_));have y1_0:=zlt (w.heap.size) hb1;have y1_1:=zlt (w.heap.size+1) hb1))
   go_ret;exact ⟨rfl,bi⟩
end
end Go.Proofs.YtonifflnjjcanaaGreatDoor
