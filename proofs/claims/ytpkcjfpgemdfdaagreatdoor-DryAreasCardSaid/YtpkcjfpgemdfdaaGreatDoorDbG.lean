/- Parts. -/
import Derived.Test.YtpkcjfpgemdfdaaGreatDoorDeG
import Derived.Test.YtpkcjfpgemdfdaaGreatDoorEc
import Derived.Test.YtpkcjfpgemdfdaaGreatDoorEd
import Derived.Test.YtpkcjfpgemdfdaaGreatDoorEe
import Derived.Test.YtpkcjfpgemdfdaaGreatDoorEf
import Derived.Test.YtpkcjfpgemdfdaaGreatDoorEg
import Derived.Test.YtpkcjfpgemdfdaaGreatDoorEh
import Derived.RangeFuncBox
import Derived.RangeFuncLeaves
import Derived.RangeFuncWrites
import Derived.Shelf.Abstract
import Derived.OwnWalkIn
import Derived.TacticsInMore
import Derived.LoopNIn
import Derived.LoopIn
set_option linter.all false
set_option maxRecDepth 100000
set_option maxHeartbeats 8000000
namespace Go.Proofs.YtpkcjfpgemdfdaaGreatDoor
open Go Go.RowKit Go.Shelf Go.Proofs.Tryz

attribute [local go_sem] Oper.semAt_some

def jaK (hs:List Hr) (c:Clim) (k:Nat):List Nat:=(List.range k).filter fun j=>jhG (hs.getD j (0,0)) c
theorem jgg {hs:List Hr} {c:Clim} {k:Nat} (h:jhG (hs.getD k (0,0)) c=true):jaK hs c (k+1)=jaK hs c k++[k]:=by
 rw [jaK,List.range_succ,List.filter_append];simp only [List.filter_cons,h,if_true,List.filter_nil];rfl
theorem jiF {hs:List Hr} {c:Clim} {k:Nat} (h:jhG (hs.getD k (0,0)) c=false):jaK hs c (k+1)=jaK hs c k:=by
 rw [jaK,List.range_succ,List.filter_append];simp only [List.filter_cons,h,Bool.false_eq_true,if_false,List.filter_nil,List.append_nil];rfl
theorem jlm (hs:List Hr) (c:Clim) (k:Nat):(jaK hs c k).length≤k:=by
 have:=List.length_filter_le (fun j=>jhG (hs.getD j (0,0)) c) (List.range k);rw [List.length_range] at this;exact this
def KpB (n₀ B:Nat) (W W':World):Prop:=Below n₀ W W'∧W'.heap[B]? =W.heap[B]?
theorem jdm {W W':World} {B:Nat} (h:W'.heap[B]? =W.heap[B]?) (o:Nat):W'.cell? ⟨B,o,none⟩=W.cell? ⟨B,o,none⟩:=World.cell?_of_block (a:=⟨B,o,none⟩) h
theorem jtq {β:Type} {B:Nat} {J:β→World→Prop} {s:β} {W W':World} (h:AbidesFrom B J) (hs:J s W) (hb:Below W.heap.size W W'):J s W':=
 h s W W' none hs ⟨hb.os,hb.tape,hb.output,hb.size,fun k hk _=>hb.block k hk⟩ (fun r e=>by cases e)
theorem jho (n:Nat) (hn:1≤n) (l Bs Bc n₀ B0 b off cap:Nat) (A:Option Addr) (hs:List Hr) (hA:0 < hs.length→A=some ⟨b,off,none⟩) (c:Clim) (hreach:hs.length*16≤140737488351232) (hb:b < n₀) (J Jx:List Nat→World→Prop) (hJ:AbidesFrom B0 J)
  (hY:∀(pre:List Nat) (x:Nat) W,J pre W→pre.length < hs.length→YieldAt Fence.wide (n - 1) prog l #[.int .i64 (x:Int)] W fun e W'=>
    (e= .returned (.bool true)∧J (pre++[x]) W'∧KpB n₀ Bc W W')∨(e= .returned (.bool false)∧Jx (pre++[x]) W'))
  (W:World) (hn0:n₀≤W.heap.size) (hBc:Bc < W.heap.size) (hcs:W.cell? ⟨Bs,0,none⟩=some (.slice A hs.length cap)) (hcc:(W.cell? ⟨Bc,0,none⟩=some (.int .i64 c.c)∧W.cell? ⟨Bc,1,none⟩=some (.int .i64 c.m))∧W.cell? ⟨Bc,2,none⟩=some (.int .i64 c.d)∧W.cell? ⟨Bc,3,none⟩=some (.int .i64 c.p))
  (hH:Hrs W b off hs) (h0:J [] W):
  CallsIn Fence.wide n prog 136 #[.func (.yield l) #[] #[], .pointer (some ⟨Bs,0,none⟩), .pointer (some ⟨Bc,0,none⟩)] W fun e W'=>(∃v,e= .returned v)∧
   ((∃ys,ys=jaK hs c hs.length∧J ys W')∨(∃pre,(∃k,k≤hs.length∧pre=jaK hs c k)∧Jx pre W')):=by
 refine callsIn_of_wp func136 rfl trivial ?_ rfl;simp only [ntmps136,List.size_toArray,List.length_cons,List.length_nil,Nat.reduceAdd,Nat.reduceSub,Array.replicate_succ,Array.replicate_zero,List.push_toArray,List.append_toArray,List.nil_append,List.cons_append]
 gi_wp2
 gi_loopw [8] (fun i wr=>∃k:Nat,k≤hs.length∧i= .int .i64 k∧J (jaK hs c k) wr∧Below n₀ W wr∧wr.heap[Bc]? =W.heap[Bc]?)
  (fun i _=>hs.length - (intOf i).toNat)
 case atStart=>exact ⟨0,Nat.zero_le _,rfl,h0,Below.refl _ _,rfl⟩
 case round=>
  obtain ⟨k,hk,rfl,hJs,hnx,hnc⟩:=hrel;by_cases hlt:k < hs.length
  ·obtain rfl:=hA (by omega);obtain ⟨hx1,hx2⟩:=hH.on hnx hb k hlt;have c1:=(jdm hnc 0).trans hcc.1.1;have c2:=(jdm hnc 1).trans hcc.1.2;have c3:=(jdm hnc 2).trans hcc.2.1;have c4:=(jdm hnc 3).trans hcc.2.2;have hsz:=hnx.size;have q1:Bc < wr.heap.size:=by omega
   have q2:b < wr.heap.size:=by omega
   obtain ⟨t,u,hxe⟩:∃t u,hs.getD k (0,0)=(t,u):=⟨_,_,rfl⟩;rw [hxe] at hx1 hx2;dsimp only at hx1 hx2;cases hsu:jhG (t,u) c
   ·gi_wp2_with (refine ⟨trivial, ?_⟩;gi_at_call 86;refine (callsIn_wide.2 (jjB (t,u) c)).mono ?_;rintro e w1 ⟨rfl,hb1⟩;have _:=bm hb1;rw [hsu])
    have hw:Below wr.heap.size wr w1:=bi;refine ⟨fun _ h=>(by cases h), ?_⟩
    gi_wp2
    go_roundw
    case rel=>exact ⟨k+1,by omega,by simp,by rw [jiF (by rw [hxe];exact hsu)];exact jtq hJ hJs hw,hnx.trans (hw.mono (by omega)),(hw.block Bc q1).trans hnc⟩
    case measure=>simp [intOf];omega
   ·gi_wp2_with (refine ⟨trivial, ?_⟩;gi_at_call 86;refine (callsIn_wide.2 (jjB (t,u) c)).mono ?_;rintro e w1 ⟨rfl,hb1⟩;have _:=bm hb1;rw [hsu];have hw:Below wr.heap.size wr w1:=bi;obtain ⟨fn,tmps,assign,body,hy,hR⟩:=hY _ k w1 (jtq hJ hJs hw) (Nat.lt_of_le_of_lt (jlm hs c k) hlt))
    refine hR.mono ?_
    rintro e W3 (⟨rfl,hJ3,hk3⟩|⟨rfl,hJx3⟩)
    ·gi_wp2
     go_roundw
     case rel=>exact ⟨k+1,by omega,by simp,by rw [jgg (by rw [hxe];exact hsu)];exact hJ3,(hnx.trans (hw.mono (by omega))).trans hk3.1,hk3.2.trans ((hw.block Bc q1).trans hnc)⟩
     case measure=>simp [intOf];omega
    ·gi_wp2
     refine bodyPost_ret (results_none rfl _ _ _) rfl ?_;exact ⟨⟨_,rfl⟩, .inr ⟨_,⟨k+1,by omega,(jgg (by rw [hxe];exact hsu)).symm⟩,hJx3⟩⟩
  ·obtain rfl:k=hs.length:=by omega
   gi_wp2
   go_end0
   exact ⟨⟨_,rfl⟩, .inl ⟨_,rfl,hJs⟩⟩

section
variable {w:World}
theorem jja (A:Option Addr) (n cap:Nat) (c:Clim):Calls prog 76 #[.slice A n cap,clv c] w fun e w'=>e= .returned (.func (.func 136) #[] #[.pointer (some ⟨w.heap.size,0,none⟩), .pointer (some ⟨w.heap.size+1,0,none⟩)])∧∃T U,w'=(w.alloc (.cells #[.slice A n cap] T)).alloc (.cells #[.int .i64 c.c, .int .i64 c.m, .int .i64 c.d, .int .i64 c.p] U):=by
 go_enter func76,ntmps76;go_wp2;go_ret;exact ⟨rfl,_,_,rfl⟩
theorem jfv (n:Nat) (hn:1≤n) (Bs Bc n₀ b off cap:Nat) (A:Option Addr) (hs:List Hr) (c:Clim) (hA:0 < hs.length→A=some ⟨b,off,none⟩) (hreach:hs.length*16≤140737488351232) (hn₀:n₀≤w.heap.size) (hb:b < n₀) (hBs:Bs < w.heap.size) (hBc:Bc < w.heap.size)
  (hcs:w.cell? ⟨Bs,0,none⟩=some (.slice A hs.length cap)) (hcc:(w.cell? ⟨Bc,0,none⟩=some (.int .i64 c.c)∧w.cell? ⟨Bc,1,none⟩=some (.int .i64 c.m))∧w.cell? ⟨Bc,2,none⟩=some (.int .i64 c.d)∧w.cell? ⟨Bc,3,none⟩=some (.int .i64 c.p))
  (hH:Hrs w b off hs):
  SeqStopsK Fence.wide n prog 136 #[.pointer (some ⟨Bs,0,none⟩), .pointer (some ⟨Bc,0,none⟩)] (fun x:Nat=> #[Value.int .i64 (x:Int)]) (KpB n₀ Bc) (fun ys=>ys=jaK hs c hs.length) (fun pre=>∃k,k≤hs.length∧pre=jaK hs c k) hs.length w:=fun l J Jx W hW hJ _ hY h0=>by
 refine (jho n hn l Bs Bc n₀ W.heap.size b off cap A hs hA c hreach hb J Jx hJ hY W (Nat.le_trans hn₀ hW.size) (Nat.lt_of_lt_of_le hBc hW.size) ((hW.cell (p:=⟨Bs,0,none⟩) hBs).trans hcs)
  ⟨⟨(hW.cell (p:=⟨Bc,0,none⟩) hBc).trans hcc.1.1,(hW.cell (p:=⟨Bc,1,none⟩) hBc).trans hcc.1.2⟩,(hW.cell (p:=⟨Bc,2,none⟩) hBc).trans hcc.2.1,(hW.cell (p:=⟨Bc,3,none⟩) hBc).trans hcc.2.2⟩ (hH.on hW (Nat.lt_of_lt_of_le hb hn₀)) h0).mono ?_
 rintro e W' ⟨he,⟨ys,rfl,hj⟩|⟨pre,⟨k,hk,rfl⟩,hj⟩⟩
 ·exact ⟨he, .inl ⟨_,rfl,hj⟩⟩
 ·exact ⟨he, .inr ⟨_,⟨k,hk,rfl⟩,hj⟩⟩
end

attribute [local go_sem] Oper.semAt_some
theorem jsU {P:Program} {c:Code} {Q:Exit→Act→World→Prop} {a:Act} {w:World} (h:c.wp P (fun e a' w'=>match e with | .normal=>Q .normal a' w' | _=>False) a w):c.wp P Q a w:=
 wp_mono h fun e a' w' h=>by cases e <;> first|exact h|exact h.elim
def jrm (hs:List Hr) (c:Clim) (need:Int):Int:=jkz [jkg hs,jlz c,if need < 0 then 3 else 0]
section
variable {w:World} {A:Option Addr} {n cap:Nat} {hs:List Hr} {c:Clim} {need:Int}

theorem jhj {c:Clim} {r:Int} (hr:jlz c=r):Calls prog 75 #[clv c] w fun e w'=>e= .returned (.int .i64 r)∧Below w.heap.size w w':=hr ▸ jlx c
end

attribute [local go_sem] Oper.semAt_some
theorem Tryz.info_int:(prog.info? 3).map (fun i=>(i.zero,i.size,i.bytes))=some (some (.int .i64 0),1,8):=by kernel_rfl
theorem jvs {n₀ B:Nat} {X Y Z:World} (h:KpB n₀ B X Y) (k:KpB n₀ B Y Z):KpB n₀ B X Z:=⟨h.1.trans k.1,k.2.trans h.2⟩
theorem jt2 {w:World} {base size n:Nat} {e:TypeId} {v:Value} {xs:List Value} (h:w.ownsRow base e size v n xs) (hn:0 < n):∃g c,v= .slice (some ⟨g,0,none⟩) n c:=by
 rcases h.2 with ⟨_,h0⟩|⟨g,cap,_,hv,_⟩
 ·omega
 ·exact ⟨g,cap,hv⟩
theorem jv6 {n₀ B:Nat} {w:World} (h1:n₀≤w.heap.size) (h2:B < w.heap.size) (W:World) (l:Nat) (o o':Obj) (hl:w.heap.size≤l) (hk:W.heap[l]? =some o) (hc:o.isCells=false) (hw:o.isWalk=false):KpB n₀ B W (W.putObj l o'):=
 ⟨belowK_b (w:=w) h1 W l o o' hl hk hc hw,World.putObj_heap_other (by omega)⟩
theorem jpY {β:Type} (B k:Nat):OwnFrom B (fun (_:β) W=>k≤W.heap.size):=fun _ _ _ _ hs hg _=>Nat.le_trans hs hg.size
theorem Hv6.place {w:World} {A:Option Addr} {n:Nat} {hs:List Hr} (h:Hv6 w A n hs) (h0:0 < w.heap.size):∃b off,(0 < hs.length→A=some ⟨b,off,none⟩)∧b < w.heap.size∧Hrs w b off hs:=by
 rcases Nat.eq_zero_or_pos n with e|e
 ·subst e;have hl:=h.len;exact ⟨0,0,fun h=>by omega,h0,fun j hj=>by omega⟩
 ·obtain ⟨b,o,hA,hb,hH⟩:=h.at_ e;exact ⟨b,o,fun _=>hA,hb,hH⟩

section
variable {w:World} {A:Option Addr} {n cap:Nat} {hs:List Hr} {c:Clim} {need:Int}

def js0 (hs:List Hr) (c:Clim) (k:Nat):List Int:=(((jvq hs (hs.length - 1) (jaK hs c hs.length)).take k).map Int.ofNat).mergeSort fun x y=>decide (x≤y)
theorem jnY {hs:List Hr} {c:Clim} {k x:Nat} (h:x∈jaK hs c k):x < k:=by
 unfold jaK at h;exact List.mem_range.1 (List.mem_filter.1 h).1
theorem jsz {k:Nat} (h:Hv6 w A n hs) (hn:n≤1000) (hk:jrm hs c need=0) (hf:need=(k:Int)) (h0:0 < (jaK hs c hs.length).length) (h20:(jaK hs c hs.length).length < 20) (hkl:k≤(jaK hs c hs.length).length) (hk0:0 < k):
  Calls prog 27 #[.slice A n cap,clv c, .int .i64 need] w fun e w'=>(∃v,e= .returned (.tuple #[v, .int .i64 0])∧w'.ownsRow w.heap.size 3 1 v k ((js0 hs c k).map (Value.int .i64)))∧Below w.heap.size w w':=by
 have HF:=qh hf;clear hf;have H:=qh h;have HN:=qh (show n≤100000 by omega);have HN2:=qh hn;have HK:=qh hk;clear h hn hk;obtain ⟨e1,he1⟩:∃e,jkg hs=e:=⟨_,rfl⟩;obtain ⟨e2,he2⟩:∃e,jlz c=e:=⟨_,rfl⟩;obtain ⟨g,hg⟩:∃g,decide (need < 0)=g:=⟨_,rfl⟩;obtain ⟨e3,he3⟩:∃e,(if g then (3:Int) else 0)=e:=⟨_,rfl⟩;have HE1:=qh he1;have HE2:=qh he2;have HE3:=qh he3
 have HK2:Hd (jkz [e1,e2,e3]=0):=by
  show _=_
  rw [←HK.o];unfold jrm;rw [he1,he2,←he3,←hg];by_cases q:need < 0 <;> simp [q]
 clear HK he1 he2 he3;have HK:=HK2;clear HK2;refine (callsIn_wide (n:=5)).1 (callsIn_of_wp_marks func27 rfl trivial ?_ rfl);simp only [ntmps27,List.size_toArray,List.length_cons,List.length_nil,Nat.reduceAdd,Nat.reduceSub,Array.replicate_succ,Array.replicate_zero,List.push_toArray,List.append_toArray,List.nil_append,List.cons_append]
 gi_wp2
 obtain ⟨V,hV⟩:∃V,(w.alloc (.cells #[.slice A n cap] 55)).alloc (.cells #[.int .i64 c.c, .int .i64 c.m, .int .i64 c.d, .int .i64 c.p] 52)=V:=⟨_,rfl⟩;have bV:Below w.heap.size w V:=by rw [←hV];exact bi
 have v1:V.cell? ⟨w.heap.size,0,none⟩=some (.slice A n cap):=by rw [←hV];simp [go_sem]
 have v2:V.cell? ⟨w.heap.size+1,0,none⟩=some (.int .i64 c.c):=by rw [←hV];simp [go_sem]
 have v3:V.cell? ⟨w.heap.size+1,1,none⟩=some (.int .i64 c.m):=by rw [←hV];simp [go_sem]
 have v4:V.cell? ⟨w.heap.size+1,2,none⟩=some (.int .i64 c.d):=by rw [←hV];simp [go_sem]
 have v5:V.cell? ⟨w.heap.size+1,3,none⟩=some (.int .i64 c.p):=by rw [←hV];simp [go_sem]
 have z0:w.heap.size < V.heap.size:=by rw [←hV];simp;omega
 have z1:w.heap.size+1 < V.heap.size:=by rw [←hV];simp
 rw [hV];clear hV;replace H:=qh (H.o.below bV);refine wpIn_wide.2 (jsU ?_);refine ja1 (fun w'=>Below V.heap.size V w') [] (by kernel_rfl) ?_;refine tl [(0,[1], .slice A n cap),(2,[3],clv c),(4,[5], .int .i64 need),(5,[6], .bool g)] [_,_,_,_] rfl (by kernel_rfl) pk5 (by intros;simp only [tyq,ppq];go_simp) bq0 ?_;simp only [tlq,ppq];refine rd1 1 (by kernel_rfl) rfl (fun K hK=> ?_);go_simp;go_wp2_with (go_at_call 74;(with_reducible refine mo0 (jp8 (H.o.below bi) HN.o HE1.o) fun w1 hb1 hc1 hf1 _=> ?_))
 have sS1:=qh (bst bq0 hb1);refine hK.out _ _ (fun _=>sS1.o) ?_;clear hK K;refine rd1 3 (by kernel_rfl) rfl (fun K hK=> ?_);go_simp;go_wp2_with (go_at_call 75;(with_reducible refine mo0 (jhj HE2.o) fun w2 hb2 hc2 hf2 _=> ?_))
 have sS2:=qh (bst sS1.o hb2);refine hK.out _ _ (fun _=>sS2.o) ?_;clear hK K;refine rd1 6 (by kernel_rfl) rfl (fun K hK=> ?_);go_simp;go_wp2_with (go_at_call 64;(with_reducible refine mo0 (jap HE3.o) fun w3 hb3 hc3 hf3 _=> ?_))
 have sS3:=qh (bst sS2.o hb3);refine hK.out _ _ (fun _=>sS3.o) ?_;clear hK K;refine rd1 7 (by kernel_rfl) rfl (fun K hK=> ?_);go_simp;refine hK.out _ _ (fun _=>bi) ?_;clear hK K
 skip
 refine rd1 8 (by kernel_rfl) rfl (fun K hK=> ?_);go_simp;go_wp2_with (go_at_call 60;(with_reducible refine mo0 (jbl (r:=0) iv3 (by omega) HK.o) fun w4 hb4 hc4 hf4 _=> ?_))
 refine hK.out _ _ (fun _=>bi) ?_;clear hK K;refine rd1 9 (by kernel_rfl) rfl (fun K hK=> ?_);go_simp;refine hK.out _ _ (fun _=>bi) ?_;clear hK K;refine ja2 (by kernel_rfl) ?_ _;dsimp only;have b4:Below V.heap.size V w4:=bi;have u1:=ja9 b4 v1;have u2:=ja9 b4 v2;have u3:=ja9 b4 v3;have u4:=ja9 b4 v4;have u5:=ja9 b4 v5;have y0:w.heap.size < w4.heap.size:=Nat.lt_of_lt_of_le z0 b4.size;have y1:w.heap.size+1 < w4.heap.size:=Nat.lt_of_lt_of_le z1 b4.size;replace H:=qh (H.o.below b4);replace bV:=bst bV b4;clear v1 v2 v3 v4 v5 z0 z1 hc1 hc2 hc3 hc4 hf1 hf2 hf3 hf4
 gi_wp2_with (refine ⟨trivial, ?_⟩;gi_at_call 76;refine (callsIn_wide.2 (jja A n cap c)).mono ?_;rintro e5 w5 ⟨rfl,T,U,rfl⟩)
 have bO:=((Boxed.new w4 45 (.slice none 0 0)).alloc (.cells #[.slice A n cap] T)).alloc (.cells #[.int .i64 c.c, .int .i64 c.m, .int .i64 c.d, .int .i64 c.p] U);have B5:Below w4.heap.size w4 (((w4.alloc (Obj.cells #[Value.slice none 0 0] 45)).alloc (.cells #[.slice A n cap] T)).alloc (.cells #[.int .i64 c.c, .int .i64 c.m, .int .i64 c.d, .int .i64 c.p] U)):=bi;have s1:(((w4.alloc (Obj.cells #[Value.slice none 0 0] 45)).alloc (.cells #[.slice A n cap] T)).alloc (.cells #[.int .i64 c.c, .int .i64 c.m, .int .i64 c.d, .int .i64 c.p] U)).cell? ⟨w4.heap.size+1,0,none⟩=some (.slice A n cap):=by simp [go_sem]
 have s2:(((w4.alloc (Obj.cells #[Value.slice none 0 0] 45)).alloc (.cells #[.slice A n cap] T)).alloc (.cells #[.int .i64 c.c, .int .i64 c.m, .int .i64 c.d, .int .i64 c.p] U)).cell? ⟨w4.heap.size+1+1,0,none⟩=some (.int .i64 c.c):=by simp [go_sem]
 have s3:(((w4.alloc (Obj.cells #[Value.slice none 0 0] 45)).alloc (.cells #[.slice A n cap] T)).alloc (.cells #[.int .i64 c.c, .int .i64 c.m, .int .i64 c.d, .int .i64 c.p] U)).cell? ⟨w4.heap.size+1+1,1,none⟩=some (.int .i64 c.m):=by simp [go_sem]
 have s4:(((w4.alloc (Obj.cells #[Value.slice none 0 0] 45)).alloc (.cells #[.slice A n cap] T)).alloc (.cells #[.int .i64 c.c, .int .i64 c.m, .int .i64 c.d, .int .i64 c.p] U)).cell? ⟨w4.heap.size+1+1,2,none⟩=some (.int .i64 c.d):=by simp [go_sem]
 have s5:(((w4.alloc (Obj.cells #[Value.slice none 0 0] 45)).alloc (.cells #[.slice A n cap] T)).alloc (.cells #[.int .i64 c.c, .int .i64 c.m, .int .i64 c.d, .int .i64 c.p] U)).cell? ⟨w4.heap.size+1+1,3,none⟩=some (.int .i64 c.p):=by simp [go_sem]
 obtain ⟨W5,hW5⟩:∃W,(((w4.alloc (Obj.cells #[Value.slice none 0 0] 45)).alloc (.cells #[.slice A n cap] T)).alloc (.cells #[.int .i64 c.c, .int .i64 c.m, .int .i64 c.d, .int .i64 c.p] U))=W:=⟨_,rfl⟩;have z5:W5.heap.size=w4.heap.size+1+1+1:=by rw [←hW5];simp
 rw [hW5] at bO B5 s1 s2 s3 s4 s5 ⊢;clear hW5 hb1 hb2 hb3 hb4 sS1 sS2 sS3 HE1 HE2 HE3 HK;obtain ⟨b,off,hA,hbl,hHs⟩:=H.o.place (by omega);have hlen:=H.o.len;rw [←hlen] at s1;have hreach:hs.length*16≤140737488351232:=by have:=HN2.o;omega
 obtain ⟨i0,hi,hz0,hz1,hz2⟩:=info_parts Tryz.info_int
 refine wpIn_rangeFunc_ownG rfl (by decide) (gf:=136) (lb:= #[.pointer (some ⟨w4.heap.size+1,0,none⟩), .pointer (some ⟨w4.heap.size+1+1,0,none⟩)]) rfl trivial (enters_of func136 (by kernel_rfl) rfl)
  (jfv 4 (by decide) (w4.heap.size+1) (w4.heap.size+1+1) w4.heap.size b off cap A hs c hA hreach (by omega) hbl (by omega) (by omega) s1 ⟨⟨s2,s3⟩,s4,s5⟩ (hHs.on B5 hbl)) jvs (jv6 (by omega) (by omega)) (Below.refl _ _) (fun _=>rfl)
  (fun pre W=>((∃v,Boxed W w4.heap.size 45 v∧W.ownsRow W5.heap.size 3 1 v pre.length (pre.map jlF)∧(v= .slice none 0 0↔pre=[]))∧Below w4.heap.size w4 W)∧W5.heap.size≤W.heap.size)
  (fun _ _ _=>False)
  (OwnFrom.and (OwnFrom.and (Own.from (holdsRow_own W5.heap.size w4.heap.size 45 3 1 (fun pre=>pre.length) (fun pre=>pre.map jlF) (fun pre v=>v= .slice none 0 0↔pre=[])) _) (ownFrom_below (Nat.le_refl _) (by omega))) (jpY _ _))
  (fun _ _ _ _ _ hs _ _=>hs)
  ⟨⟨⟨_,bO,World.ownsRow_nil _ _ _ _,by simp⟩,B5⟩,Nat.le_refl _⟩
  (fun x=>{ tmps:= #[.slice A n cap,clv c, .int .i64 need, .pointer (some ⟨w.heap.size,0,none⟩), .pointer (some ⟨w.heap.size+1,0,none⟩),undef, .slice none 0 0, .int .i64 0, .int .i64 0, .pointer (some ⟨w4.heap.size,0,none⟩),jlF x,undef, .slice A n cap, .int .i64 e1,clv c, .int .i64 e2, .int .i64 need, .bool g, .int .i64 e3, .slice (some ⟨w3.heap.size,0,none⟩) 3 3, .int .i64 0, .int .i64 0, .bool false,undef, .slice A n cap,clv c, .func (.func 136) #[] #[.pointer (some ⟨w4.heap.size+1,0,none⟩), .pointer (some ⟨w4.heap.size+1+1,0,none⟩)],jlF x,undef,undef,undef,undef,undef,undef,undef,undef,undef,undef,undef,undef,undef,undef,undef,undef,undef,undef,undef],defers:=[] }) ?assign ?body ?done ?stop
 case assign=>
  intro l x W K hK
  gi_wp2
  exact hK
 case stop=>
  rintro D c pre W _ _ h _
  exact h.elim
 case body=>
  rintro l pre x W ⟨⟨⟨v,hv,hrow,hnil⟩,hB⟩,hSz⟩ hlt
  have hc:=hv.cell;have hp:pre.length+1≤1000:=by have:=HN2.o;omega
  gi_wp2_with (gi_at_builtin;refine wpListIn_append_own _ rfl _ _ 45 rfl W5.heap.size 3 i0 (.int .i64 0) 1 8 underlying45 hi hz0 hz1 hz2 rfl (by decide) _ _ _ rfl (hrow.alloc _) ⟨W.heap.size,0,none⟩ 1 1 [jlF x] rfl rfl (cell_one_new _ _ _) (by simp [Value.oneCell']) (by unfold maxLen;omega) (by omega) (by simp;omega) ?_;intro v' w1 hown' hgrow _;obtain ⟨g',cap',rfl⟩:=ownsRow_succ hown';obtain ⟨hv1,hv2,hr2,hk2,hb2⟩:=hv.appended (by decide) (jnw hrow (by omega)) (by omega) (Nat.le_refl _) (jnw hown' (by omega)) hgrow;have hc1:=hv1.cell;have hf1:=hv1.frozen)
  have hbc:(w1.setCell ⟨w4.heap.size,0,none⟩ (.slice (some ⟨g',0,none⟩) (pre.length+1) cap')).heap[w4.heap.size+1+1]? =W.heap[w4.heap.size+1+1]? :=by
   rw [Below.heap_setCell _ _ _ _ (by dsimp only;omega),hgrow.block _ (by simp;omega) (fun e=>by have:=(hrow.lt _ e.symm).1;omega)];exact Below.heap_alloc _ _ _ (by omega)
  exact ⟨hk2.from _,⟨hb2,hbc⟩,⟨⟨_,hv2,by rw [List.length_append,List.map_append];exact hown'.kept (grownBy_setCell' _ _ _) (.inr (hv1.not_row (by decide) hown').symm),by simp⟩,hB.trans hb2⟩,Nat.le_trans hSz (Nat.le_trans (by simp) (Nat.le_trans hgrow.size (by simp)))⟩
 case done=>
  rintro D ys W hD hys ⟨⟨⟨v,hv,hrow,hnil⟩,hB⟩,hSz⟩ hK
  have hc:=hv.cell;subst hys;have hf:=HF.o;subst hf;obtain ⟨N,hN⟩:∃N,(jaK hs c hs.length).length=N:=⟨_,rfl⟩;have hall:∀x∈jaK hs c hs.length,x < (hs.length - 1)+1:=fun x hx=>by have:=jnY hx;omega
  rw [hN] at hrow h0 h20 hkl
  obtain ⟨g,cv,rfl⟩:∃g cv,v= .slice (some ⟨g,0,none⟩) N cv:=by
   rcases hrow.2 with ⟨_,e⟩|⟨g,cap,_,hv,_⟩
   ·omega
   ·exact ⟨g,cap,hv⟩
  have hgl:=hrow.lt g rfl;have hgne:∀k,w4.heap.size≤k→k < W5.heap.size→g≠k:=fun k _ _=>by omega
  have q1:decide ((N:Int) < (k:Int))=false:=by simp;omega
  have q2:decide (N < k)=false:=by simp;omega
  have hpos:0 < hs.length:=by
   rcases Nat.eq_zero_or_pos hs.length with e|e
   ·rw [e] at hN;simp [jaK] at hN;omega
   ·exact e
  have hAA:=hA hpos;subst hAA
  have HBY:Hd (ByW (W.alloc (.cells #[.func (.func 78) #[] #[.pointer (some ⟨w.heap.size,0,none⟩)]] 134)) g W.heap.size w.heap.size b off cap (hs.length - 1) hs):=qh (by
   have c3:W.cell? ⟨w.heap.size,0,none⟩=some (.slice (some ⟨b,off,none⟩) hs.length cap):=(hB.cell (p:=⟨w.heap.size,0,none⟩) y0).trans (by rw [hlen];exact u1);have bA:Below W.heap.size W (W.alloc (.cells #[.func (.func 78) #[] #[.pointer (some ⟨w.heap.size,0,none⟩)]] 134)):=ja5 (Below.refl _ _) _
   exact ⟨by simp [go_sem],(bA.cell (p:=⟨w.heap.size,0,none⟩) (by dsimp only;omega)).trans c3,(hHs.on hB hbl).on bA (by omega),by omega,by omega,by omega,by simp;omega,by simp,by simp;omega,by simp;omega,by omega⟩)
  have hrow1:=hrow.alloc (.cells #[.func (.func 78) #[] #[.pointer (some ⟨w.heap.size,0,none⟩)]] 134);have HR1:=qh hrow1;have HDK:=qh hK;have HBX:=qh hv;have HH:=qh (ai hall (ai h20 (ai hkl hk0)));have hkN:k≤N:=hkl
  have hNc:N≤cv:=by
   rcases hrow.2 with ⟨e,_⟩|⟨g',cap,cur,e,_,_,h1,_⟩
   ·cases e
   ·cases e;exact h1
  have gne:g≠w4.heap.size:=hgne _ (Nat.le_refl _) (by omega);clear hA hHs s1 s2 s3 s4 s5 u1 u2 u3 u4 u5 hrow1 hrow hK hv bO B5 hnil hlen hall h20 hkl hk0
  gi_wp2_with (first|(refine ⟨trivial, ?_⟩;gi_at_call 77;refine (callsIn_wide.2 (jtl (jp7 hs (hs.length - 1+1)) (fun T n=>jo2 (HBY.o.boxed (T:=T)) n) HR1.o HH.o.1 HH.o.2.1)).mono ?_;rintro e6 w6 ⟨rfl,hr6,hg6⟩;have c6:=((HBX.o.alloc _).kept hg6 (fun e=>gne (Option.some.inj e).symm)).cell)|(refine ⟨trivial, ?_⟩;gi_at_call 80;refine (callsIn_wide.2 (joe hr6 hkN (by have:=HH.o.2.1;omega))).mono ?_;rintro e7 w7 ⟨v7,rfl,hr7,hne7,hb7⟩;have _:=bm hb7;obtain ⟨g7,c7,rfl⟩:=jt2 hr7 HH.o.2.2.2)|(refine ⟨trivial, ?_⟩;gi_at_call 81;refine (callsIn_wide.2 (jqs hr7 (by have:=HH.o.2.1;omega))).mono ?_;rintro e8 w8 ⟨rfl,hr8,hg8⟩))
  have hg7:=(hr7.lt g7 rfl).1;have sA:(W.alloc (.cells #[.func (.func 78) #[] #[.pointer (some ⟨w.heap.size,0,none⟩)]] 134)).heap.size=W.heap.size+1:=by simp
  have s6:=hg6.size;rw [sA] at s6;have hDl:D < W.heap.size:=(Array.getElem?_eq_some_iff.1 HDK.o).1;have k1:(W.alloc (.cells #[.func (.func 78) #[] #[.pointer (some ⟨w.heap.size,0,none⟩)]] 134)).heap[D]? =some (.deferred (some [])):=(Below.heap_alloc _ _ _ hDl).trans HDK.o
  have hDg:g≠D:=fun e=>by
   rcases HR1.o.2 with ⟨e1,_⟩|⟨g',cap,cur,e1,_,h1,_⟩
   ·cases e1
   ·cases e1
    rw [e,k1] at h1;cases h1
  have k2:w6.heap[D]? =some (.deferred (some [])):=(hg6.block D (by omega) (fun e=>hDg (Option.some.inj e).symm)).trans k1;have k3:w7.heap[D]? =some (.deferred (some [])):=(hb7.block D (by omega)).trans k2;have k4:w8.heap[D]? =some (.deferred (some [])):=(hg8.block D (by have:=hb7.size;omega) (fun e=>by have:=Option.some.inj e;omega)).trans k3;have b1:Below w.heap.size w W:=bV.trans (hB.mono (by omega));have b2:Below w.heap.size w w6:=(ja5 b1 (.cells #[.func (.func 78) #[] #[.pointer (some ⟨w.heap.size,0,none⟩)]] 134)).grown hg6 (by omega) (fun k e=>by have:=Option.some.inj e;omega);have b3:Below w.heap.size w w7:=b2.trans (hb7.mono (by omega));have b4:Below w.heap.size w w8:=b3.grown hg8 (by have:=hb7.size;omega) (fun k e=>by have:=Option.some.inj e;omega);refine ⟨by simp, .inl ⟨_,_,rfl,run_takeDeferred k4, ?_⟩⟩;exact ⟨.tuple #[.slice (some ⟨g7,0,none⟩) k c7, .int .i64 0],by simp [results,results27,go_sem],⟨_,rfl,ownsRow_putObj (jnw hr8 (by omega)) _ k4 rfl⟩,b4.trans (belowK_b (w:=w) (Nat.le_refl _) w8 D _ _ (by omega) k4 rfl rfl)⟩
end
end Go.Proofs.YtpkcjfpgemdfdaaGreatDoor
namespace Go.Proofs.YtpkcjfpgemdfdaaGreatDoor.E6
open Go Ax Go.RowKit Go.Proofs.Tryz

theorem jcZ {h:Hp} {news:List (Nat×Ax.Blk)} {nx:Nat} (hB:Bd h) (hx:h.nx≤nx) (hn:∀p,p∈news→p.1 < nx):Bd (kept h news nx):=by
 intro id c e;rcases je4 _ _ _ _ e with k|k
 ·exact hn _ k
 ·exact Nat.lt_of_lt_of_le (hB id c k) hx
theorem jpz:jaK [(50,60),(40,80),(30,60),(20,60)] ⟨0,60,0,70⟩ 4=[0,2,3]:=by decide+kernel
theorem jme:js0 [(50,60),(40,80),(30,60),(20,60)] ⟨0,60,0,70⟩ 2=[2,3]:=by
 unfold js0;rw [show ([(50,60),(40,80),(30,60),(20,60)]:List Hr).length=4 from rfl,jpz]
 have e:jvq [(50,60),(40,80),(30,60),(20,60)] (4 - 1) [0,2,3]=[3,2,0]:=by
  unfold jvq jne;simp [Sort.insertionSort,Sort.insOuter,Sort.insInner,Sort.swp,dOf,ltOf,cfH,Lib.compareInt];rfl
 rw [e];simp [List.mergeSort]
theorem jpm:jrm [(50,60),(40,80),(30,60),(20,60)] ⟨0,60,0,70⟩ 2=0:=by decide+kernel
theorem jjd:(jaK [(50,60),(40,80),(30,60),(20,60)] ⟨0,60,0,70⟩ 4).length=3:=by decide+kernel
theorem nx6:s6.nx=5830:=rfl
theorem jkA (h:Hp) (b:Ax.Blk) (id:Nat):(jau h b).h.get id=if id=h.nx then some b else h.h.get id:=Tr.get_set _ _ _ _
theorem jpx (h:Hp) (p:Nat×Ax.Blk) (nx id:Nat):(kept h [p] nx).h.get id=if id=p.1 then some p.2 else h.h.get id:=Tr.get_set _ _ _ _
theorem jqz:s6.h.get 5829=some (.cells [.int .i64 50, .int .i64 60, .int .i64 40, .int .i64 80, .int .i64 30, .int .i64 60, .int .i64 20, .int .i64 60]):=by
 unfold s6 stW;rw [jkA,if_pos (by decide)]
theorem jjc (id:Nat):s6'.h.get id=if id=5830 then some (.cells [.int .i64 2, .int .i64 3]) else s6.h.get id:=by
 unfold s6';rw [jpx]
theorem jn1 {ι:Emb}:∀{l:List Int} {cs:List Value},VRs ι (l.map (AV.int .i64)) cs→cs=l.map (Value.int .i64)
 | [],cs,h=>VRs.nil.1 h
 | a::l,cs,h=>by
   obtain ⟨v,vs,rfl,h1,h2⟩:=VRs.cons.1 h;rw [VR.int.1 h1,jn1 h2];rfl
theorem jlO:CallOk prog 27 a6 s6 v6 s6':=by
 refine ⟨show s6.nx≤s6'.nx by decide,Nat.le_refl _,fun hB=>jcZ hB (by decide) (by intro p hp;cases List.mem_singleton.1 hp;decide),fun id h1 _=> ?_,fun ι w vals hv hW hf hB=> ?_⟩
 ·rw [jjc,if_neg (by rw [nx6] at h1;omega)]
 obtain ⟨v1,vs1,rfl,e1,t1⟩:=VRs.cons.1 hv;obtain ⟨v2,vs2,rfl,e2,t2⟩:=VRs.cons.1 t1;obtain ⟨v3,vs3,rfl,e3,t3⟩:=VRs.cons.1 t2;obtain rfl:=VRs.nil.1 t3;obtain ⟨l,x,c,hl,rfl,hx,hc⟩:=VR.slc.1 e1;obtain ⟨rfl,hc4⟩:c=4∧4≤c:=hc;obtain rfl:x=l.d+0:=hx (by decide);obtain ⟨cs,rfl,hcs⟩:=VR.agg.1 e2;obtain rfl:=jn1 (l:=[0,60,0,70]) hcs;obtain rfl:=VR.int.1 e3;obtain ⟨⟨hln,hcell⟩,_,_⟩:=hW.blk 5829 l _ hl jqz;have hlt:=hW.lt 5829 l _ hl jqz
 have cell:∀(j:Nat) (z:Int),([50,60,40,80,30,60,20,60]:List Int)[j]? =some z→w.cell? ⟨l.b,l.d+j,none⟩=some (.int .i64 z):=fun j z hj=>by
  obtain ⟨v,k1,k2⟩:=hcell j (.int .i64 z) (by
   have:([AV.int .i64 50, .int .i64 60, .int .i64 40, .int .i64 80, .int .i64 30, .int .i64 60, .int .i64 20, .int .i64 60]:List AV)=([50,60,40,80,30,60,20,60]:List Int).map (AV.int .i64):=rfl
   rw [this,List.getElem?_map,hj];rfl)
  rw [k1,VR.int.1 k2]
 have hH:Hv6 w (some ⟨l.b,l.d+0,none⟩) 4 [(50,60),(40,80),(30,60),(20,60)]:=⟨rfl,fun _=>⟨l.b,l.d+0,rfl,hlt,fun j hj=>by
  rcases (show j=0∨j=1∨j=2∨j=3 by simp at hj;omega) with rfl|rfl|rfl|rfl
  ·exact ⟨cell 0 50 rfl,cell 1 60 rfl⟩
  ·exact ⟨cell 2 40 rfl,cell 3 80 rfl⟩
  ·exact ⟨cell 4 30 rfl,cell 5 60 rfl⟩
  ·exact ⟨cell 6 20 rfl,cell 7 60 rfl⟩⟩⟩
 have hC:=jsz (cap:=4) (c:=⟨0,60,0,70⟩) (need:=2) (k:=2) hH (by decide) jpm rfl (by rw [show ([(50,60),(40,80),(30,60),(20,60)]:List Hr).length=4 from rfl,jjd];decide) (by rw [show ([(50,60),(40,80),(30,60),(20,60)]:List Hr).length=4 from rfl,jjd];decide) (by rw [show ([(50,60),(40,80),(30,60),(20,60)]:List Hr).length=4 from rfl,jjd];decide) (by decide);rw [jme] at hC;have hcall:(callFunc 27 #[.slice (some ⟨l.b,l.d+0,none⟩) 4 4,clv ⟨0,60,0,70⟩, .int .i64 2]).run prog w= .ok (.enter 27 #[.slice (some ⟨l.b,l.d+0,none⟩) 4 4,clv ⟨0,60,0,70⟩, .int .i64 2]) w:=enters_of func27 (by kernel_rfl) rfl _ _;show Gives _ ((callFunc 27 #[.slice (some ⟨l.b,l.d+0,none⟩) 4 4,clv ⟨0,60,0,70⟩, .int .i64 2]).run prog w) _
 rw [hcall];refine Calls.mono hC ?_
 rintro e w' ⟨⟨v,rfl,hrow⟩,hb⟩
 obtain ⟨_,⟨_,h0⟩|⟨g,cap,cur,rfl,hg,hgc,hn,hm,hs,ht⟩⟩:=hrow
 ·cases h0
 refine ⟨_,rfl,fun id=>if id=5830 then some ⟨g,0,cap⟩ else ι id,⟨fun id hid=> ?_,fun id l' h1 h2 e=> ?_⟩, ?_,⟨fun g' hg'=> ?_,fun id l' b e k=> ?_,fun id l' b e k=> ?_,fun id id' l1 l2 b b' hne k1 k2 q1 q2 _ _=> ?_⟩,⟨hb.os,hb.tape,hb.output,hb.size,fun B hB' _=>hb.block B hB'⟩⟩
 ·rw [if_neg];intro e;subst e;exact hid ⟨by decide,by decide⟩
 ·by_cases hid:id=5830
  ·rw [if_pos hid] at e;cases e;exact .inl hg
  ·exact absurd (show id=5830 by have:s6.nx=5830:=nx6;have:s6'.nx=5831:=rfl;omega) hid
 ·refine VR.tup.2 ⟨[.slice (some ⟨g,0,none⟩) 2 cap, .int .i64 0],rfl,VRs.cons.2 ⟨_,_,rfl,VR.slc.2 ⟨⟨g,0,cap⟩,0,cap,by rw [if_pos rfl],rfl,fun _=>rfl,hn,fun _=>by simp⟩,VRs.cons.2 ⟨_,_,rfl,VR.int.2 rfl,VRs.nil.2 rfl⟩⟩⟩
 ·obtain ⟨n,hn⟩:=hW.gl g' hg';exact ⟨n,by rw [if_neg (by omega)];exact hn⟩
 ·by_cases hid:id=5830
  ·rw [if_pos hid] at e;cases e;exact (Array.getElem?_eq_some_iff.1 hgc).1
  ·rw [if_neg hid] at e;rw [jjc,if_neg hid] at k;exact Nat.lt_of_lt_of_le (hW.lt id l' b e k) hb.size
 ·by_cases hid:id=5830
  ·rw [if_pos hid] at e;cases e;rw [jjc,if_pos hid] at k;cases k
   have hcs:cur.size=cap:=by simpa using hs
   have hat:∀j,w'.cell? ⟨g,0+j,none⟩=cur[j]? :=fun j=>by simp [World.cell?,hgc]
   refine ⟨⟨hn,fun j a ha=> ?_⟩,fun j hj=> ?_,fun o=>by simp [World.frozen?,hgc]⟩
   ·have hj:j < 2:=by
     have:=(List.getElem?_eq_some_iff.1 ha).1;simpa using this
    have h1:(cur.toList.take (2*1))[j]? =(([2,3]:List Int).map (Value.int .i64))[j]? :=by rw [ht]
    rw [List.getElem?_take,if_pos (by omega),Array.getElem?_toList] at h1;rcases (show j=0∨j=1 by omega) with rfl|rfl
    ·cases ha;exact ⟨_,(hat 0).trans h1,VR.int.2 rfl⟩
    ·cases ha;exact ⟨_,(hat 1).trans h1,VR.int.2 rfl⟩
   ·show (w'.cell? ⟨g,0+j,none⟩).isSome=true
    rw [hat,Array.getElem?_eq_getElem (by have:j < cap:=hj;omega)];rfl
  ·rw [if_neg hid] at e;rw [jjc,if_neg hid] at k;refine jiZ.mono (fun a la ha=> ?_) (hb.block _ (hW.lt id l' b e k)) (hW.blk id l' b e k);have:a≠5830:=fun e=>by subst e;rw [hf 5830 (by decide) (by decide)] at ha;cases ha
   show (if a=5830 then _ else ι a)=_
   rw [if_neg this];exact ha
 ·by_cases h1:id=5830
  ·have h2:id'≠5830:=fun e=>hne (h1.trans e.symm)
   rw [if_pos h1] at k1;rw [if_neg h2] at k2;rw [jjc,if_neg h2] at q2;cases k1
   have:=hW.lt id' l2 b' k2 q2;intro e;have e:g=l2.b:=e;omega
  ·rw [if_neg h1] at k1;rw [jjc,if_neg h1] at q1;by_cases h2:id'=5830
   ·rw [if_pos h2] at k2;cases k2
    have:=hW.lt id l1 b k1 q1;intro e;have e:l1.b=g:=e;omega
   ·rw [if_neg h2] at k2;rw [jjc,if_neg h2] at q2;exact hW.inj id id' l1 l2 b b' hne k1 k2 q1 q2 ‹_› ‹_›
end Go.Proofs.YtpkcjfpgemdfdaaGreatDoor.E6
namespace Go.Proofs.YtpkcjfpgemdfdaaGreatDoor.E6
open Go Ax Go.RowKit Go.Proofs.Tryz
theorem jiD:prog.follows .mixedOrders=true:=by kernel_rfl
theorem jeI {h:Hp} {b:Ax.Blk} (hB:Bd h):Bd (jau h b):=by
 intro id c e;have e1:(h.h.set h.nx b).get id=some c:=e;rw [Tr.get_set] at e1;by_cases k:id=h.nx
 ·subst k;exact Nat.lt_succ_self _
 ·rw [if_neg k] at e1;exact nls (hB id c e1)
theorem bd0:Bd h0:=by
 intro id c e;rcases je4 _ _ _ _ e with k|k
 ·simp at k;rcases k with ⟨rfl,_⟩|⟨rfl,_⟩ <;> exact by decide
 ·cases k
theorem bd1:Bd s1:=jeI bd0
theorem jvR:Bd s1':=jcZ bd1 (by decide) (by intro p hp;cases hp)
theorem bd2:Bd s2:=jeI jvR
theorem jvF:Bd s2':=jcZ bd2 (by decide) (by intro p hp;cases hp)
theorem jwk:Bd s3':=jcZ jvF (by decide) (by intro p hp;cases hp)
theorem bd4:Bd s4:=jeI jwk
theorem jwg:Bd s4':=jcZ bd4 (by decide) (by intro p hp;cases List.mem_singleton.1 hp;decide)
theorem bd5:Bd s5:=jeI jwg
theorem jvV:Bd s5':=jcZ bd5 (by decide) (by intro p hp;cases hp)
theorem bd6:Bd s6:=jeI (jeI jvV)
theorem jw2:Bd s6':=jcZ bd6 (by decide) (by intro p hp;cases List.mem_singleton.1 hp;decide)
theorem bd7:Bd s7:=jeI jw2
theorem jmR:CallOk prog 10 a1 s1 v1 s1':=jcN jiD jgd (by decide) bd1 jns
theorem jmw:CallOk prog 22 a2 s2 v2 s2':=jcN jiD jgd (by decide) bd2 jlJ
theorem jqc:CallOk prog 23 a3 s2' v3 s3':=jcN jiD jgd (by decide) jvF joD
theorem jlg:CallOk prog 24 a4 s4 v4 s4':=jcN jiD jgd (by decide) bd4 jkS
theorem jjm:CallOk prog 25 a5 s5 v5 s5':=jcN jiD jgd (by decide) bd5 jiB
theorem jkD:CallOk prog 29 a7 s7 v7 s7':=jcN jiD jgd (by decide) bd7 jkC
theorem jti (fans:CallOk prog 27 a6 s6 v6 s6'):jbD prog hkA:=by
 intro f g hg args h v h' e;unfold hkA at hg
 have key:∀{n:Nat} {A:List AV} {S S':Hp} {V:AV} {o:Option (List AV→Hp→Ro)},CallOk prog n A S V S'→((bif Nat.beq f n then some (jnN A S V S') else o)=some g)→(o=some g→CallOk prog f args h v h')→CallOk prog f args h v h':=by
  intro n A S S' V o c k k2;cases hf:Nat.beq f n with
  | false=>rw [hf] at k;exact k2 k
  | true=>
    rw [hf] at k;have:=Nat.eq_of_beq_eq_true hf;subst this;cases k
    exact jsQ c args h v h' e
 exact key jmR hg fun hg=>key jmw hg fun hg=>key jqc hg fun hg=>key jlg hg fun hg=>key jjm hg fun hg=>key fans hg fun hg=>key jkD hg fun hg=>nomatch hg
theorem jkG (fans:CallOk prog 27 a6 s6 v6 s6'):∃nx,CallOk prog 9 [] h0 (.bool true) (kept h0 [] nx):=⟨_,jcN jiD (jti fans) (by decide) bd0 jla⟩
def jrv:Emb:=fun id=>if id < 100 then some ⟨id,0,20⟩ else none
theorem wr0 {w : World} (hT : Lib.TabIs prog w "internal/strconv.uint64pow10" .u64 Lib.pow10Tab) (hM : ∃ m, w.cell? ⟨0, 0, none⟩ = some m) : WR jrv h0.h.get w := by
 have hpow:∀i,i < 20→w.cell? ⟨5,i,none⟩=some (.int .u64 (Lib.pow10Tab.getD i 0)):=fun i hi=>hT.cell (g:=5) (by kernel_rfl) i hi
 obtain ⟨m,hm⟩:=hM
 have mem:∀id b,h0.h.get id=some b→(id=0∧b= .ro [.any])∨(id=5∧b= .ro [.int .u64 1, .int .u64 10, .int .u64 100, .int .u64 1000, .int .u64 10000, .int .u64 100000, .int .u64 1000000, .int .u64 10000000, .int .u64 100000000]):=by
  intro id b e;rcases je4 _ _ _ _ e with k|k
  ·simpa using k
  ·cases k
 have at0:jrv 0=some ⟨0,0,20⟩:=rfl;have at5:jrv 5=some ⟨5,0,20⟩:=rfl;refine ⟨fun g hg=>⟨20,by simp [jrv,hg]⟩,fun id l b e k=> ?_,fun id l b e k=> ?_,fun id id' l l' b b' hne e e' _ _ _ _=> ?_⟩
 ·rcases mem id b k with ⟨rfl,rfl⟩|⟨rfl,rfl⟩
  ·rw [at0] at e;cases e;exact World.block_lt_of_cell? w _ hm
  ·rw [at5] at e;cases e;exact World.block_lt_of_cell? w _ (hpow 0 (by decide))
 ·rcases mem id b k with ⟨rfl,rfl⟩|⟨rfl,rfl⟩
  ·rw [at0] at e;cases e;refine ⟨by decide,fun j a ha=> ?_⟩
   match j,ha with
   | 0,ha=>cases ha;exact ⟨m,hm,VR.any⟩
  ·rw [at5] at e;cases e;refine ⟨by decide,fun j a ha=> ?_⟩
   match j,ha with
   | 0,ha | 1,ha | 2,ha | 3,ha | 4,ha | 5,ha | 6,ha | 7,ha | 8,ha=>cases ha;exact ⟨_,by rw [Nat.zero_add];exact hpow _ (by decide),VR.int.2 rfl⟩
 ·unfold jrv at e e';split at e <;> simp at e
  split at e' <;> simp at e'
  rw [←e,←e'];exact hne
theorem jpK {P:Program} {f:Nat} {h h':Hp} {v:AV} {ι:Emb} {w:World} (c:CallOk P f [] h v h') (h1:WR ι h.h.get w) (h2:jdR ι h.nx h'.nx) (h3:Bd h):Gives P ((callFunc f #[]).run P w) (jer ι h'.h.get h.nx h'.nx h'.wm w v):=c.run ι w [] (VRs.nil.2 rfl) h1 h2 h3
theorem jkI {P : Program} {f : Nat} {fn : Func} {h h' : Hp} {v : AV} {ι : Emb} {w : World} (c : CallOk P f [] h v h') (h1 : WR ι h.h.get w) (h2 : jdR ι h.nx h'.nx) (h3 : Bd h) (hf : P.funcs[f]? = some fn) (hn : (fn.name == "runtime.NumGoroutine") = false) (hb : fn.body.isNone = false) (hwm : h.nx ≤ h'.wm) : Calls P f #[] w fun e w' => (∃ u, e = .returned u ∧ ∃ ι', VR ι' v u) ∧ Below w.heap.size w w' := by
 have hr:=jpK c h1 h2 h3
 have hcall:(callFunc f #[]).run P w= .ok (.enter f #[]) w:=by
  have k1 : ¬ (fn.name = "runtime.NumGoroutine") := by simpa using hn
  have k2:¬(fn.body=none):=fun k=>by rw [k] at hb;cases hb
  simp [callFunc,hf,k1,k2]
 rw [hcall] at hr;refine Calls.mono hr fun e w' ⟨u,e1,ι',p1,p2,p3,p4⟩=>⟨⟨u,e1,ι',p2⟩,p4.os,p4.tape,p4.output,p4.size,fun k hk=>p4.keep k hk fun id l a b e=>by omega⟩
theorem jlQ (fans : CallOk prog 27 a6 s6 v6 s6') {w : World} (hT : Lib.TabIs prog w "internal/strconv.uint64pow10" .u64 Lib.pow10Tab) (hM : ∃ m, w.cell? ⟨0, 0, none⟩ = some m) : Calls prog 9 #[] w fun e w' => e = .returned (.bool true) ∧ Below w.heap.size w w' := by
 obtain ⟨nx,c⟩:=jkG fans;have n0:h0.nx=100:=rfl
 have hf:jdR jrv h0.nx (kept h0 [] nx).nx:=fun id h1 _=>by
  unfold jrv;rw [if_neg (by omega)]
 refine (jkI c (wr0 hT hM) hf bd0 func9 (by kernel_rfl) (by kernel_rfl) (show 100≤1000000000 by decide)).mono fun e w' ⟨⟨u,e1,ι',h2⟩,hb⟩=> ?_
 exact ⟨by rw [e1,VR.bool.1 h2],hb⟩
theorem awake6 {w : World} (hT : Lib.TabIs prog w "internal/strconv.uint64pow10" .u64 Lib.pow10Tab) (hM : ∃ m, w.cell? ⟨0, 0, none⟩ = some m) : Calls prog 9 #[] w fun e w' => e = .returned (.bool true) ∧ Below w.heap.size w w' := jlQ jlO hT hM
end Go.Proofs.YtpkcjfpgemdfdaaGreatDoor.E6
