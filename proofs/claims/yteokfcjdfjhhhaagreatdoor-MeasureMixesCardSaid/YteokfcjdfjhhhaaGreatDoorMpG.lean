/- Parts. -/
import Derived.Test.YteokfcjdfjhhhaaGreatDoorMbG
set_option linter.all false
set_option maxRecDepth 100000
set_option maxHeartbeats 8000000
namespace Go.Proofs.YteokfcjdfjhhhaaGreatDoor
open Go Go.RowKit

abbrev ids (m:Nat):Array (Fin (m+1)):=Array.ofFn (fun i:Fin (m+1)=>i)
def apD (t s:Int) (ws:List Int) (m:Nat):Array (Fin (m+1)):=Sort.insertionSort (ltOf (cfR t s ws)) (ids m) 0 (ids m).size
def apL (t s:Int) (ws:List Int) (m:Nat):List Nat:=(apD t s ws m).toList.map Fin.val
theorem jnE (t s:Int) (ws:List Int) (m:Nat):ltOf (cfR t s ws (n:=m+1))=Stab.ltKey (fun x:Fin (m+1)=>t*ws.getD x.val 0 % s):=by
 funext x y
 unfold ltOf Stab.ltKey cfR Lib.compareInt;rw [decide_eq_decide];split
 ·rename_i h;constructor
  ·intro _;exact h
  ·intro _;decide
 ·split
  ·rename_i h _;constructor
   ·intro h1;cases h1
   ·intro h1;exact absurd h1 h
  ·rename_i h _;constructor
   ·intro h1;cases h1
   ·intro h1;exact absurd h1 h
theorem jbi (m:Nat):(ids m).size=m+1:=by simp
theorem jjw {m p:Nat} (h:p < m+1):(ids m)[p]! =⟨p,h⟩:=by
 rw [getElem!_pos _ p (by rw [jbi];exact h)];simp
theorem jdV (t s:Int) (ws:List Int) (m:Nat):Sort.PermIn 0 (m+1) (ids m) (apD t s ws m)∧Sort.SortedIn (Stab.ltLex (fun x:Fin (m+1)=>t*ws.getD x.val 0 % s) Fin.val) 0 (m+1) (apD t s ws m):=by
 have h:=Stab.sort_stable (fun x:Fin (m+1)=>t*ws.getD x.val 0 % s) Fin.val (ids m) (fun p q h1 h2=>by
  rw [jbi] at h2
  rw [jjw (by omega),jjw h2];exact h1)
 rw [jbi] at h
 have e:apD t s ws m=Sort.insertionSort (Stab.ltKey (fun x:Fin (m+1)=>t*ws.getD x.val 0 % s)) (ids m) 0 (m+1):=by
  unfold apD;rw [jnE,jbi]
 rw [e];exact h
theorem je8 (t s:Int) (ws:List Int) (m:Nat):(apD t s ws m).size=m+1:=by
 rw [(jdV t s ws m).1.1,jbi]
theorem jnN (t s:Int) (ws:List Int) (m:Nat):(apD t s ws m).toList.Perm (ids m).toList:=by
 have h:=(jdV t s ws m).1.2.2;have e:∀(a:Array (Fin (m+1))) (k:Nat),a.size=k→a.extract 0 k=a:=fun a k hk=>by subst hk;simp
 rw [e _ _ (je8 t s ws m),e _ _ (jbi m)] at h;exact h
theorem jnW (m:Nat):(ids m).toList.map Fin.val=List.range (m+1):=by
 apply List.ext_getElem
 ·simp
 ·intro i h1 h2;rw [List.getElem_map,List.getElem_range];have h3:i < m+1:=by simpa using h2
  rw [Array.getElem_toList,←getElem!_pos _ i (by rw [jbi];exact h3),jjw h3]
theorem jg1 (t s:Int) (ws:List Int) (m:Nat):(apL t s ws m).Perm (List.range (m+1)):=by
 rw [←jnW];exact (jnN t s ws m).map _
theorem jdL (t s:Int) (ws:List Int) (m:Nat):(apL t s ws m).length=m+1:=by
 rw [(jg1 t s ws m).length_eq];simp
theorem jmj {t s:Int} {ws:List Int} {m p:Nat} (h:p < m+1):(apL t s ws m)[p]'(by rw [jdL];exact h)=((apD t s ws m)[p]!).val:=by
 rw [getElem!_pos _ p (by rw [je8];exact h)];simp [apL]
theorem jhF (t s:Int) (ws:List Int) (m:Nat):App.Order (App.rem t s (fun j=>ws.getD j 0)) (m+1) (apL t s ws m) where
 len:=jdL t s ws m
 mem i:=by rw [(jg1 t s ws m).mem_iff];simp
 nodup:=(jg1 t s ws m).nodup_iff.2 List.nodup_range
 sorted i j hi hj:=by
  rw [jdL] at hj;have h:=(jdV t s ws m).2 i j (Nat.zero_le _) hi hj;rw [jmj hj,jmj (show i < m+1 by omega)];simp only [Stab.ltLex,decide_eq_false_iff_not] at h;show ¬(t*ws.getD _ 0 % s < t*ws.getD _ 0 % s∨t*ws.getD _ 0 % s=t*ws.getD _ 0 % s∧_ < _)
  intro h1;apply h;exact h1

def jcU (zs:List Int):Array Value:=(zs.map (Value.int .i64)).toArray
theorem jbD {zs:List Int} {j:Nat} (h:j < zs.length):(jcU zs)[j]? =some (.int .i64 (zs.getD j 0)):=by
 simp [jcU,List.getD_eq_getElem?_getD,h]
theorem jcG (zs:List Int) (i:Nat) (z:Int):(jcU zs).setIfInBounds i (.int .i64 z)=jcU (zs.set i z):=by
 simp [jcU,List.map_set]
theorem jnA:(Tryz.prog.info? 3).map (fun i=>(i.zero,i.size,i.bytes))=some (some (.int .i64 0),1,8):=by kernel_rfl
theorem jfY (l:Nat):madeCells #[Value.int .i64 0] (l*1)=jcU (List.replicate l 0):=by
 apply Array.ext
 ·simp [madeCells,jcU]
 ·intro i h1 h2;simp [madeCells,jcU,Nat.mod_one]
theorem jee (l:Nat) (hl:l < 1099511627776) (W:World):
  (Instr.makeSlice 59 (.int .i64 (l:Int)) (.int .i64 (l:Int))).run Tryz.prog W= .ok (.slice (some ⟨W.heap.size,0,none⟩) l l) (W.alloc (.cells (jcU (List.replicate l 0)) 3)):=by
 obtain ⟨i0,hi,hz0,hz1,hz2⟩:=info_parts jnA;have hr:=run_make (P:=Tryz.prog) W 59 3 i0 (.int .i64 0) Tryz.underlying59 hi hz0 .i64 .i64 (l:Int) (l:Int) (by omega) (by omega) (by rw [hz2];omega) (by omega);simp only [Int.toNat_natCast,hz1] at hr;rw [hr,show (Value.int IntKind.i64 0).cells= #[Value.int .i64 0] from rfl,jfY]

def ji6 (f:Nat→Int) (n i:Nat):List Int:=(List.range n).map fun j=>if j < i then f j else 0
theorem jfV (f:Nat→Int) (n i:Nat):(ji6 f n i).length=n:=by simp [ji6]
theorem jhP (f:Nat→Int) (n:Nat):ji6 f n 0=List.replicate n 0:=by
 apply List.ext_getElem
 ·simp [ji6]
 ·intro i h1 h2;simp [ji6]
theorem jjH (f:Nat→Int) (n i:Nat):(ji6 f n i).set i (f i)=ji6 f n (i+1):=by
 apply List.ext_getElem
 ·simp [ji6]
 ·intro j h1 h2;rw [List.getElem_set];simp only [ji6,List.getElem_map,List.getElem_range];by_cases h:i=j
  ·subst h;simp
  ·rw [if_neg h];by_cases h3:j < i
   ·rw [if_pos h3,if_pos (by omega)]
   ·rw [if_neg h3,if_neg (by omega)]
theorem jit {f:Nat→Int} {n i j:Nat} (hj:j < n):(ji6 f n i).getD j 0=if j < i then f j else 0:=by
 simp [ji6,List.getD_eq_getElem?_getD,hj]

structure A1 (w wr:World) (b6 n c i:Nat) (A:Option Addr) (t s:Int) (q:Nat→Int):Prop where
 bO:Blk wr (b6+1) 3 (jcU (ji6 q n i))
 bP:Blk wr (b6+1+1) 3 (jcU (ji6 (fun j=>(j:Int)) n i))
 c2:wr.cell? ⟨w.heap.size,0,none⟩=some (.int .i64 t)
 c3:wr.cell? ⟨w.heap.size+1,0,none⟩=some (.slice A n c)
 c4:wr.cell? ⟨b6,0,none⟩=some (.int .i64 s)
 bel:Below w.heap.size w wr
 sz:w.heap.size+1 < b6

theorem jka {f:Nat→Int} (h:∀j,0≤f j):∀{i n:Nat},i≤n→App.sumTo f i≤App.sumTo f n:=by
 intro i n hin
 induction n with
 | zero => have:i=0:=by omega
           subst this;exact Int.le_refl _
 | succ n ih=>
   rcases Nat.lt_or_ge i (n+1) with h1|h1
   ·have:=ih (by omega);have:=h n;simp only [App.sumTo];omega
   ·have:i=n+1:=by omega
    subst this;exact Int.le_refl _
theorem jeD {α:Type} [Inhabited α] (enc:α→Value) (w:World) (blk off:Nat) (d:Array α) {g:Nat} (h:g≠blk):(Sort.putRow enc w blk off d).heap[g]? =w.heap[g]? :=by
 unfold Sort.putRow Sort.mapBlock;simp only [Array.getElem?_modify];rw [if_neg (Ne.symm h)]
theorem Blk.putRow {α:Type} [Inhabited α] {enc:α→Value} {w:World} {blk off g T:Nat} {cs:Array Value} {d:Array α} (h:Blk w g T cs) (hg:g≠blk):Blk (Sort.putRow enc w blk off d) g T cs:=by
 show (Sort.putRow enc w blk off d).heap[g]? =_
 rw [jeD _ _ _ _ _ hg];exact h
theorem jgP {α:Type} [Inhabited α] {enc:α→Value} {B:Nat} {a w:World} {blk off:Nat} {d:Array α} (h:Below B a w) (hb:B≤blk):Below B a (Sort.putRow enc w blk off d):=
 ⟨h.os,h.tape,h.output,by rw [Sort.size_putRow];exact h.size,fun k hk=>by
   rw [jeD _ _ _ _ _ (by omega)];exact h.block k hk⟩
def outs (t s:Int) (f:Nat→Int) (L:List Nat) (n j:Nat):List Int:=(List.range n).map (App.out t s f L j)
theorem jov (t s:Int) (f:Nat→Int) (L:List Nat) (n j:Nat):(outs t s f L n j).length=n:=by simp [outs]
theorem jpy {t s:Int} {f:Nat→Int} {L:List Nat} {n j p:Nat} (h:p < n):(outs t s f L n j).getD p 0=App.out t s f L j p:=by
 simp [outs,List.getD_eq_getElem?_getD,h]
theorem jlc (t s:Int) (f:Nat→Int) (L:List Nat) (n:Nat):outs t s f L n 0=ji6 (App.quo t s f) n n:=by
 apply List.ext_getElem
 ·simp [outs,ji6]
 ·intro i h1 h2;have:i < n:=by simpa [outs] using h1
  simp [outs,ji6,App.out,this]
theorem jlA {t s:Int} {f:Nat→Int} {L:List Nat} {n j:Nat} (hn:L.Nodup) (hj:j < L.length):(outs t s f L n j).set L[j] (App.out t s f L j L[j]+1)=outs t s f L n (j+1):=by
 have hno:L[j] ∉ L.take j:=fun h=>by have:=(App.nodup_take hn hj).1 h;omega
 have hsu:∀i,i∈L.take (j+1)↔i∈L.take j∨i=L[j]:=fun i=>by rw [List.take_succ_eq_append_getElem hj,List.mem_append,List.mem_singleton]
 apply List.ext_getElem
 ·simp [outs]
 ·intro i h1 h2;rw [List.getElem_set];simp only [outs,List.getElem_map,List.getElem_range];unfold App.out;by_cases h:L[j]=i
  ·subst h;rw [if_pos rfl,if_neg hno,if_pos ((hsu _).2 (Or.inr rfl))];omega
  ·rw [if_neg h];by_cases h3:i∈L.take j
   ·rw [if_pos h3,if_pos ((hsu _).2 (Or.inl h3))]
   ·rw [if_neg h3,if_neg (fun h4=>((hsu _).1 h4).elim h3 (fun e=>h e.symm))]

structure A2 (w wr V:World) (b6 n:Nat) (zs:List Int):Prop where
 bO:Blk wr (b6+1) 3 (jcU zs)
 bel:Below w.heap.size w wr
 pl:∀j,wr.cell? ⟨b6+1+1,j,none⟩=V.cell? ⟨b6+1+1,j,none⟩
 sz:w.heap.size+1 < b6
section
variable {w:World} {A:Option Addr} {n c:Nat} {ws:List Int} {t s:Int}
theorem jhB {m:Nat} (hn:n=m+1) (hm:m < 19) (h:Iv w A n ws) (hw:∀j,0≤ws.getD j 0∧ws.getD j 0≤999999999) (hcw:cw ws=(s,0)) (hsum:App.sumTo (fun j=>ws.getD j 0) n=s) (hs:0 < s) (ht0:0≤t) (ht1:t≤999999999):
  Calls Tryz.prog 23 #[.int .i64 t, .slice A n c] w fun e w'=>∃b,e= .returned (.tuple #[.slice (some ⟨b,0,none⟩) n n, .int .i64 0])∧Blk w' b 3 (jcU ((List.range n).map (App.out t s (fun j=>ws.getD j 0) (apL t s ws m) (App.left t s (fun j=>ws.getD j 0) n).toNat)))∧w.heap.size≤b∧Below w.heap.size w w':=by
 have H:=qh h;have HW:=qh hw
 have HCW:=qh (fun W (hb:Below w.heap.size w W)=>by
  have:=jcf (c:=c) (h.below hb) (show n≤100000 by omega)
  rwa [hcw] at this)
 have HT:=qh (And.intro ht0 ht1);have HS:=qh hs;have q1:decide (t < 0)=false:=by simp;omega
 have q2:decide (999999999 < t)=false:=by simp;omega
 have q3:((n:Int)==0)=false:=by rw [beq_eq_false_iff_ne];omega
 have q4:decide ((256:Int) < (n:Int))=false:=by simp;omega
 have hmk:=fun W=>jee n (by omega) W
 have HN:=qh (And.intro hn hm);have hq0:∀j,0≤App.quo t s (fun j=>ws.getD j 0) j:=fun j=>Int.ediv_nonneg (Int.mul_nonneg ht0 (hw j).1) (by omega)
 have hleft:=App.left_nonneg (t:=t) hsum hs;have hleft2:=App.left_lt (t:=t) hsum hs;unfold App.left at hleft hleft2
 have hpre:∀i,i≤n→0≤App.sumTo (App.quo t s (fun j=>ws.getD j 0)) i∧App.sumTo (App.quo t s (fun j=>ws.getD j 0)) i≤t:=fun i hi=>by
  have h1:=jka (f:=App.quo t s (fun j=>ws.getD j 0)) (fun j=>hq0 j) hi;have h2:=App.sumTo_nonneg (f:=App.quo t s (fun j=>ws.getD j 0)) (n:=i) (fun j _=>hq0 j);exact ⟨h2,by omega⟩
 have hstep:∀j,∃z,App.quo t s (fun j=>ws.getD j 0) j=z:=fun j=>⟨_,rfl⟩
 have hmul:∀j,0≤t*ws.getD j 0∧t*ws.getD j 0≤999999998000000001:=fun j=>
  ⟨Int.mul_nonneg ht0 (hw j).1,by have:=Int.mul_le_mul ht1 (hw j).2 (hw j).1 (show (0:Int)≤999999999 by omega);omega⟩
 obtain ⟨q,hq⟩:∃q,App.quo t s (fun j=>ws.getD j 0)=q:=⟨_,rfl⟩;rw [hq] at hpre hq0;have HPRE:=qh hpre;have HQ:=qh hq;have HQ0:=qh hq0;have HMUL:=qh hmul;have HSUM:=qh hsum;clear h hw hcw hs ht0 ht1 hn hm hq hq0 hleft hleft2 hpre hstep hmul hsum;obtain ⟨R,hR⟩:∃R,(List.range n).map (App.out t s (fun j=>ws.getD j 0) (apL t s ws m) (App.left t s (fun j=>ws.getD j 0) n).toNat)=R:=⟨_,rfl⟩;rw [hR];have HR:=qh hR;clear hR;go_enter Tryz.func23,Tryz.ntmps23;go_wp2_with (go_at_call 73;(with_reducible refine mz (HCW.out _ bi) fun w1 hb1 _=> ?_);obtain ⟨hc1,hf1,z1_0,z1_1,_⟩:=bc2 w hb1 (by go_size);refine Hid.out ?_)
 have f0:w1.cell? ⟨w.heap.size,0,none⟩=some (.int .i64 t):=by simp [go_sem,hc1]
 have f1:w1.cell? ⟨w.heap.size+1,0,none⟩=some (.slice A n c):=by simp [go_sem,hc1]
 have bW1:Below w.heap.size w w1:=bi;have hn0:w.heap.size≠w1.heap.size:=nl z1_0;have hn1:w.heap.size+1≠w1.heap.size:=nl z1_1;have hn2:w.heap.size≠w1.heap.size+1:=by omega
 have hn3:w.heap.size+1≠w1.heap.size+1:=by omega
 have hn4:w.heap.size≠w1.heap.size+1+1:=by omega
 have hn5:w.heap.size+1≠w1.heap.size+1+1:=by omega
 have hl0:w.heap.size < w1.heap.size+1:=by omega
 have hl1:w.heap.size+1 < w1.heap.size+1:=by omega
 have hl2:w.heap.size < w1.heap.size+1+1:=by omega
 have hl3:w.heap.size+1 < w1.heap.size+1+1:=by omega
 clear hc1 hf1 hb1;refine qh ?_;go_wp2
 go_loopw [10,47] (fun lf iv wr=>∃i:Nat,i≤n∧lf= .int .i64 (t - App.sumTo q i)∧iv= .int .i64 (i:Int)∧A1 w wr w1.heap.size n c i A t s q) (fun _ iv _=>n - (intOf iv).toNat)
 case atStart=>
  refine ⟨0,by omega,by simp [App.sumTo],rfl, ?_⟩
  exact { bO:=by
           rw [jhP];have:=Blk.new (w1.alloc (.cells #[.int .i64 s] 3)) 3 (jcU (List.replicate n 0));simp only [World.size_alloc] at this;exact this.alloc _
          bP:=by
           rw [jhP];have:=Blk.new ((w1.alloc (.cells #[.int .i64 s] 3)).alloc (.cells (jcU (List.replicate n 0)) 3)) 3 (jcU (List.replicate n 0));simp only [World.size_alloc] at this;exact this
          c2:=by simp [go_sem,f0,hn0,hn2,hn4,hl0,hl2,z1_0]
          c3:=by simp [go_sem,f1,hn1,hn3,hn5,hl1,hl3,z1_1]
          c4:=by simp [go_sem]
          bel:=bi
          sz:=z1_1 }
 case round=>
  clear f0 f1 hn0 hn1 hn2 hn3 hn4 hn5 hl0 hl1 hl2 hl3 bW1;obtain ⟨b6,hb6⟩:∃b,w1.heap.size=b:=⟨_,rfl⟩;rw [hb6] at hrel z1_0 z1_1 ⊢;clear hb6;obtain ⟨i,hin,rfl,rfl,hI⟩:=hrel;have f2:=hI.c2;have f3:=hI.c3;have f4:=hI.c4;have bwr:=hI.bel;have HI:=qh hI;clear hI;by_cases hi:i < n
  ·have q5:decide ((i:Int) < (n:Int))=true:=by simp;exact hi
   obtain ⟨bw,ow,rfl,hbw,hcell⟩:=(H.out.below bwr).at_ (by omega);have hx:=hcell i hi;obtain ⟨x,hxx⟩:∃x,ws.getD i 0=x:=⟨_,rfl⟩;have hm1:=HMUL.out i;have hqi:q i=t*x / s:=by rw [←HQ.out,←hxx];rfl
   have hpi:=HPRE.out i hin;have hpi1:=HPRE.out (i+1) hi;have hq0:=HQ0.out i;have hsi:App.sumTo q (i+1)=App.sumTo q i+q i:=rfl;rw [hxx] at hx hm1;have m1:wrap64 (t*x)=t*x:=by unfold wrap64;omega
   have m2:(t*x).tdiv s=q i:=by rw [hqi];exact Int.tdiv_eq_ediv_of_nonneg hm1.1
   have ht:=HT.out;obtain ⟨z,hz⟩:∃z,q i=z:=⟨_,rfl⟩;rw [hz] at m2 hq0 hsi;have m3:wrap64 z=z:=by unfold wrap64;omega
   have m4:wrap64 (t - App.sumTo q i - z)=t - App.sumTo q i - z:=by unfold wrap64;omega
   have m5:(s==0)=false:=by rw [beq_eq_false_iff_ne];have:=HS.out;omega
   have m6:s≠0:=by have:=HS.out;omega
   have k0:=HI.out.bO.cell i;rw [jbD (by rw [jfV];exact hi),jit hi,if_neg (by omega)] at k0;have k1:=HI.out.bP.cell i;rw [jbD (by rw [jfV];exact hi),jit hi,if_neg (by omega)] at k1;have g0:=HI.out.bO.frozen i;have g1:=HI.out.bP.frozen i;have HM2:=qh m2;have HZ:=qh hz;have HSI:=qh hsi;have HII:=qh hi;clear hm1 hqi hpi hpi1 hq0 hsi hcell hxx hz ht;go_wp2;have hz:=HZ.out;refine ⟨⟨i+1,HII.out,by rw [m4,HSI.out,Int.sub_sub],by have:=HN.out;have:=HII.out;congr 1;unfold wrap64;omega, ?_⟩,by have:=HN.out;have:=HII.out;rw [show wrap64 ((i:Int)+1)=((i+1:Nat):Int) by unfold wrap64;omega];simp [intOf];omega⟩
   exact { bO:=by
            have:=(HI.out.bO.set_ i (.int .i64 z)).far (p:=⟨b6+1+1,i,none⟩) (by simp) (.int .i64 (i:Int));rw [jcG,←hz,jjH] at this;rw [←hz];exact this
           bP:=by
            have:=(HI.out.bP.far (p:=⟨b6+1,i,none⟩) (by simp) (.int .i64 z)).set_ i (.int .i64 (i:Int));rw [jcG,jjH (fun j=>(j:Int))] at this;exact this
           c2:=by simp [go_sem,f2]
           c3:=by simp [go_sem,f3]
           c4:=by simp [go_sem,f4]
           bel:=(HI.out.bel.setCell (p:=⟨b6+1,i,none⟩) (by have:=HI.out.sz;simp;omega) _).setCell (p:=⟨b6+1+1,i,none⟩) (by have:=HI.out.sz;simp;omega) _
           sz:=HI.out.sz }
  ·have hin2:n=i:=by omega
   subst hin2;have q5:decide (n < n)=false:=by simp
   have hL:=App.left_nonneg (t:=t) HSUM.out HS.out;have hL2:=App.left_lt (t:=t) HSUM.out HS.out;obtain ⟨k,hk⟩:∃k,(App.left t s (fun j=>ws.getD j 0) n).toNat=k:=⟨_,rfl⟩
   have hki:t - App.sumTo q n=(k:Int):=by
    rw [←HQ.out];show App.left t s (fun j=>ws.getD j 0) n=(k:Int)
    omega
   have hkn:k < n:=by omega
   obtain ⟨L,hLL⟩:∃L,apL t s ws m=L:=⟨_,rfl⟩
   have hR3:R=outs t s (fun j=>ws.getD j 0) L n k:=by
    have hR2:=HR.out;rw [hk,hLL] at hR2;exact hR2.symm
   obtain ⟨bw,ow,rfl,hbw,hcell⟩:=(H.out.below bwr).at_ (by omega);obtain ⟨hn,hm⟩:=HN.out
   have hAW:AppW wr (b6+1+1) w.heap.size (w.heap.size+1) b6 bw ow (m+1) c ws t s:=
    { c2:=f2,c3:=by rw [←hn];exact f3,c4:=f4,cw:=by rw [←hn];exact hcell,n2:=by have:=HI.out.sz;omega,n3:=by have:=HI.out.sz;omega,n4:=by omega,
      nw:=by
       obtain ⟨b,o,e,h1,_⟩:=H.out.at_ (by omega);cases e
       have:=HI.out.sz;omega
      s2:=by have:=HI.out.bP.lt;have:=HI.out.sz;omega,s3:=by have:=HI.out.bP.lt;have:=HI.out.sz;omega,s4:=by have:=HI.out.bP.lt;omega,sw:=hbw,t0:=HT.out.1,t1:=HT.out.2,ws0:=HW.out,s0:=HS.out }
   have hH:Sort.Holds jgU wr (b6+1+1) 0 (ids m):=fun j hj=>by
    rw [jbi,←hn] at hj;have h1:=HI.out.bP.cell j;rw [jbD (by rw [jfV];exact hj),jit hj,if_pos hj] at h1;rw [Nat.zero_add,h1];refine ⟨?_,HI.out.bP.frozen j⟩;rw [jjw (by omega)];rfl
   have hST:=jkb (cap:=n) hn hAW (ids m) (jbi m) hH hm;have hD:Sort.Holds jgU (Sort.putRow jgU wr (b6+1+1) 0 (apD t s ws m)) (b6+1+1) 0 (apD t s ws m):=Sort.holds_putRow jgU wr (b6+1+1) 0 (ids m) (apD t s ws m) hH (by rw [je8,jbi]);have hO:=(HI.out.bO.putRow (enc:=jgU) (blk:=b6+1+1) (off:=0) (d:=apD t s ws m) (by omega));have hB:=jgP (enc:=jgU) (blk:=b6+1+1) (off:=0) (d:=apD t s ws m) HI.out.bel (by have:=HI.out.sz;omega);have hV:∃V,Sort.putRow jgU wr (b6+1+1) 0 (apD t s ws m)=V:=⟨_,rfl⟩;obtain ⟨V,hV⟩:=hV;unfold jcN at hST
   have hST':Calls Tryz.prog 75 #[.slice (some ⟨b6+1+1,0,none⟩) n n, .func (.func 76) #[] (cbA w.heap.size (w.heap.size+1) b6)] wr fun e w'=>e= .returned (.tuple #[])∧∃n,w'=V.drewN n:=by
    rw [←hV];exact hST
   rw [hV] at hD hO hB;have hLlen:L.length=n:=by rw [←hLL,jdL,←hn]
   have hLnd:L.Nodup:=by rw [←hLL];exact (jhF t s ws m).nodup
   have hLlt:∀j (h:j < L.length),L[j] < n:=fun j h=>by
    have h1:=((jhF t s ws m).mem L[j]).1 (by rw [hLL];exact List.getElem_mem h);rw [←hn] at h1;exact h1
   have hP:∀j,j < n→V.cell? ⟨b6+1+1,j,none⟩=some (.int .i64 ((L.getD j 0:Nat):Int)):=fun j hj=>by
    have h1:=(hD j (by rw [je8,←hn];exact hj)).1;rw [Nat.zero_add] at h1;rw [h1];have h2:=jmj (t:=t) (s:=s) (ws:=ws) (m:=m) (p:=j) (by omega)
    have h3:L.getD j 0=(apL t s ws m)[j]'(by rw [jdL,←hn];exact hj):=by
     rw [←hLL,List.getD_eq_getElem?_getD,List.getElem?_eq_getElem (by rw [jdL,←hn];exact hj)];rfl
    rw [h3,h2];rfl
   have HST:=qh hST';have HV:=qh (And.intro hO hB);have HL:=qh (And.intro hLlen (And.intro hLnd hLlt));have HP:=qh hP
   have hqb:∀p,0≤q p∧q p≤999999998000000001:=fun p=>by
    have h1:=HMUL.out p;rw [←HQ.out];exact ⟨Int.ediv_nonneg h1.1 (by have:=HS.out;omega),Int.le_trans (Int.ediv_le_self _ h1.1) h1.2⟩
   have HQB:=qh hqb;have HR3:=qh hR3;have HKN:=qh hkn;rw [hki];clear hqb hR3 hP hLlen hLnd hLlt hST hST' hO hB hD hV hH hAW hm hn hcell hLL hk hL hL2 HR HPRE HMUL HSUM hki hi hin;go_wp2_with (go_at_call 75;(with_reducible refine HST.out.mono ?_);rintro e2 w2 ⟨rfl,kk,rfl⟩)
   go_loopw [78] (fun iv wr2=>∃j:Nat,j≤k∧iv= .int .i64 (j:Int)∧A2 w wr2 V b6 n (outs t s (fun j=>ws.getD j 0) L n j)) (fun iv _=>k - (intOf iv).toNat)
   case atStart=>
    refine ⟨0,by omega,rfl, ?_⟩;exact { bO:=by rw [jlc,HQ.out];exact HV.out.1.drewN kk,bel:=jaC HV.out.2 kk,pl:=fun j=>by simp,sz:=HI.out.sz }
   case round=>
    obtain ⟨j,hjk,rfl,hJ⟩:=hrel;have HJ:=qh hJ;have bJ:=hJ.bel;clear hJ;by_cases hj:j < k
    ·have q6:decide ((j:Int) < (k:Int))=true:=by simp;exact hj
     have hjL:j < L.length:=by rw [HL.out.1];omega
     have hp:=HL.out.2.2 j hjL;have k0:=HJ.out.pl j;rw [HP.out j (by omega),List.getD_eq_getElem?_getD,List.getElem?_eq_getElem hjL,Option.getD_some] at k0;have HST:=jlA (t:=t) (s:=s) (f:=fun j=>ws.getD j 0) (n:=n) HL.out.2.1 hjL;obtain ⟨p,hpp⟩:∃p,L[j]=p:=⟨_,rfl⟩;rw [hpp] at hp k0 HST;have k1:=HJ.out.bO.cell p;rw [jbD (by rw [jov];exact hp),jpy hp] at k1;have g1:=HJ.out.bO.frozen p;obtain ⟨z,hz⟩:∃z,App.out t s (fun j=>ws.getD j 0) L j p=z:=⟨_,rfl⟩;rw [hz] at k1 HST
     have hzb:0≤z∧z≤999999998000000002:=by
      rw [←hz];unfold App.out;rw [HQ.out];have:=HQB.out p;split <;> omega
     have m1:wrap64 (z+1)=z+1:=by unfold wrap64;omega
     have HSTP:=qh HST;have HJK:=qh hj;have hkn2:=HKN.out;clear HST hzb hz hpp hjL;go_wp2;refine ⟨⟨j+1,HJK.out,by have:=HJK.out;have:=HKN.out;have:=HN.out;congr 1;unfold wrap64;omega, ?_⟩,by have:=HJK.out;have:=HKN.out;have:=HN.out;rw [show wrap64 ((j:Int)+1)=((j+1:Nat):Int) by unfold wrap64;omega];simp [intOf];omega⟩
     exact { bO:=by
              have:=HJ.out.bO.set_ p (.int .i64 (wrap64 (z+1)));rw [m1,jcG,HSTP.out] at this;exact this
             bel:=bJ.setCell (p:=⟨b6+1,p,none⟩) (by have:=HI.out.sz;simp;omega) _
             pl:=fun i=>by rw [World.cell?_setCell_far _ _ _ _ (by simp)];exact HJ.out.pl i
             sz:=HI.out.sz }
    ·have hjk2:k=j:=by omega
     subst hjk2;have q6:decide (k < k)=false:=by simp
     go_wp2;go_ret2;exact ⟨b6+1,rfl,by rw [HR3.out];exact HJ.out.bO,by have:=HI.out.sz;omega,bJ⟩
end

structure Sv (w:World) (A:Option Addr) (n:Nat) (ls:List (List UInt8)):Prop where
 len:ls.length=n
 at_:0 < n→∃b o,A=some ⟨b,o,none⟩∧b < w.heap.size∧∀j,j < n→w.cell? ⟨b,o+j,none⟩=some (bs (ls.getD j []))
theorem Sv.below {w w':World} {A:Option Addr} {n:Nat} {ls:List (List UInt8)} (h:Sv w A n ls) (hb:Below w.heap.size w w'):Sv w' A n ls:=
 ⟨h.len,fun hn=>by
   obtain ⟨b,o,e,h1,h2⟩:=h.at_ hn
   exact ⟨b,o,e,Nat.lt_of_lt_of_le h1 hb.size,fun j hj=>by rw [hb.cell (p:=⟨b,o+j,none⟩) h1];exact h2 j hj⟩⟩
theorem Sv.two (w:World) (t:TypeId) (k l:List UInt8):Sv (w.alloc (.cells #[bs k,bs l] t)) (some ⟨w.heap.size,0,none⟩) 2 [k,l]:=
 ⟨rfl,fun _=>⟨w.heap.size,0,rfl,by simp,fun j hj=>by
   have h:j=0∨j=1:=by omega
   rcases h with rfl|rfl <;> simp⟩⟩
def jab {α:Type} (f:α→Int):List α→Int
 | []=>0
 | x::r=>if f x=0 then jab f r else f x
theorem jaH {α:Type} {d:α} {l:List α} {i:Nat} (h:i < l.length):l.drop i=l.getD i d::l.drop (i+1):=by
 rw [List.drop_eq_getElem_cons h,List.getD_eq_getElem?_getD,List.getElem?_eq_getElem h];rfl
theorem jaT {α:Type} {f:α→Int} {x:α} {r:List α} (h:f x≠0):jab f (x::r)=f x:=by simp [jab,h]
theorem jae {α:Type} {f:α→Int} {x:α} {r:List α} (h:f x=0):jab f (x::r)=jab f r:=by simp [jab,h]

section
variable {w:World} {A:Option Addr} {n c:Nat} {ls:List (List UInt8)} {f:List UInt8→Int}
theorem jfX
(h:Sv w A n ls) (hn:n≤100000) (hf:∀l∈ls,∀W,Below w.heap.size w W→Calls Tryz.prog 30 #[bs l] W fun e w'=>e= .returned (.int .i64 (f l))∧Below W.heap.size W w'):
  Calls Tryz.prog 78 #[.func (.func 30) #[] #[], .slice A n c] w fun e w'=>e= .returned (.int .i64 (jab f ls))∧Below w.heap.size w w':=by
  obtain ⟨R,hR⟩:∃R,jab f ls=R:=⟨_,rfl⟩;rw [hR];have HR:=qh hR;have H:=qh h;have HN:=qh hn;have HF:=qh hf;clear hR h hn hf;go_enter Tryz.func78,Tryz.ntmps78;go_wp2
  go_loopw [10] (fun u wr=>∃(i:Nat),u= .int .i64 (i:Int)∧Below w.heap.size w wr∧i≤n∧jab f (ls.drop i)=R) (fun u _=>n - (intOf u).toNat)
  case atStart=>exact ⟨0,rfl,bi,by omega,HR.out⟩
  case round=>
   obtain ⟨i,rfl,hb,hin,hc⟩:=hrel;have _:=bm hb;by_cases hi:i < n
   ·have q0:decide ((i:Int) < (n:Int))=true:=by simp;exact hi
    obtain ⟨b,o,rfl,hbl,hcell⟩:=(H.out.below hb).at_ (by omega);have hx:=hcell i hi;have hil:i < ls.length:=by rw [H.out.len];exact hi
    rw [jaH (d:=[]) hil] at hc;have hmem:ls.getD i []∈ls:=by rw [List.getD_eq_getElem?_getD,List.getElem?_eq_getElem hil];exact List.getElem_mem hil
    obtain ⟨x,hxx⟩:∃x,ls.getD i []=x:=⟨_,rfl⟩;rw [hxx] at hx hc hmem;have HX:=qh (HF.out x hmem wr hb);have hnn:=HN.out;have HI:=qh hi;clear hcell hmem hil hxx;by_cases h0:f x=0
    ·have HC:Hid (jab f (ls.drop (i+1))=R):=qh (by rw [←hc,jae h0]);rw [h0] at HX;clear hc h0 hi;go_wp2_with (go_at_call 30;(with_reducible refine mo0 (HX.out) fun w1 hb1 hc1 hf1 _=> ?_))
     exact ⟨⟨i+1,by simp,bi,HI.out,HC.out⟩,by have:=HI.out;simp [intOf];omega⟩
    ·have hR:R=f x:=by rw [←hc,jaT h0]
     subst hR;obtain ⟨y,hy⟩:∃y,f x=y:=⟨_,rfl⟩;rw [hy] at HX;have q1:(y != 0)=true:=by rw [bne_iff_ne,←hy];exact h0
     have HY:=qh hy;clear hc h0 hi hy HR;go_wp2_with (go_at_call 30;(with_reducible refine mo0 (HX.out) fun w1 hb1 hc1 hf1 _=> ?_))
     go_ret;exact ⟨by rw [HY.out];rfl,bi⟩
   ·have q0:decide (i < n)=false:=by simp;omega
    rw [List.drop_eq_nil_of_le (by rw [H.out.len];omega)] at hc;have hR:R=0:=by rw [←hc];rfl
    subst hR;clear hc hi HR;go_wp2;go_ret;exact ⟨rfl,bi⟩
theorem jfl
(h:Sv w A n ls) (hn:n≤100000) (hf:∀l∈ls,∀W,Below w.heap.size w W→Calls Tryz.prog 79 #[bs l] W fun e w'=>e= .returned (.int .i64 (f l))∧Below W.heap.size W w'):
  Calls Tryz.prog 78 #[.func (.func 79) #[] #[], .slice A n c] w fun e w'=>e= .returned (.int .i64 (jab f ls))∧Below w.heap.size w w':=by
  obtain ⟨R,hR⟩:∃R,jab f ls=R:=⟨_,rfl⟩;rw [hR];have HR:=qh hR;have H:=qh h;have HN:=qh hn;have HF:=qh hf;clear hR h hn hf;go_enter Tryz.func78,Tryz.ntmps78;go_wp2
  go_loopw [10] (fun u wr=>∃(i:Nat),u= .int .i64 (i:Int)∧Below w.heap.size w wr∧i≤n∧jab f (ls.drop i)=R) (fun u _=>n - (intOf u).toNat)
  case atStart=>exact ⟨0,rfl,bi,by omega,HR.out⟩
  case round=>
   obtain ⟨i,rfl,hb,hin,hc⟩:=hrel;have _:=bm hb;by_cases hi:i < n
   ·have q0:decide ((i:Int) < (n:Int))=true:=by simp;exact hi
    obtain ⟨b,o,rfl,hbl,hcell⟩:=(H.out.below hb).at_ (by omega);have hx:=hcell i hi;have hil:i < ls.length:=by rw [H.out.len];exact hi
    rw [jaH (d:=[]) hil] at hc;have hmem:ls.getD i []∈ls:=by rw [List.getD_eq_getElem?_getD,List.getElem?_eq_getElem hil];exact List.getElem_mem hil
    obtain ⟨x,hxx⟩:∃x,ls.getD i []=x:=⟨_,rfl⟩;rw [hxx] at hx hc hmem;have HX:=qh (HF.out x hmem wr hb);have hnn:=HN.out;have HI:=qh hi;clear hcell hmem hil hxx;by_cases h0:f x=0
    ·have HC:Hid (jab f (ls.drop (i+1))=R):=qh (by rw [←hc,jae h0]);rw [h0] at HX;clear hc h0 hi;go_wp2_with (go_at_call 79;(with_reducible refine mo0 (HX.out) fun w1 hb1 hc1 hf1 _=> ?_))
     exact ⟨⟨i+1,by simp,bi,HI.out,HC.out⟩,by have:=HI.out;simp [intOf];omega⟩
    ·have hR:R=f x:=by rw [←hc,jaT h0]
     subst hR;obtain ⟨y,hy⟩:∃y,f x=y:=⟨_,rfl⟩;rw [hy] at HX;have q1:(y != 0)=true:=by rw [bne_iff_ne,←hy];exact h0
     have HY:=qh hy;clear hc h0 hi hy HR;go_wp2_with (go_at_call 79;(with_reducible refine mo0 (HX.out) fun w1 hb1 hc1 hf1 _=> ?_))
     go_ret;exact ⟨by rw [HY.out];rfl,bi⟩
   ·have q0:decide (i < n)=false:=by simp;omega
    rw [List.drop_eq_nil_of_le (by rw [H.out.len];omega)] at hc;have hR:R=0:=by rw [←hc];rfl
    subst hR;clear hc hi HR;go_wp2;go_ret;exact ⟨rfl,bi⟩
end

noncomputable def numQ (l:List UInt8):Rat:= @dite _ (∃x,IsNum l x) (Classical.propDecidable _) (fun h=>Classical.choose h) (fun _=>0)
theorem IsNum.numQ {l:List UInt8} {x:Rat} (h:IsNum l x):numQ l=x:=by
 have h1:∃x,IsNum l x:=⟨x,h⟩;unfold Proofs.YteokfcjdfjhhhaaGreatDoor.numQ;rw [dif_pos h1];exact (Classical.choose_spec h1).inj h
theorem jbQ {l:List UInt8} (h:chk l=0):IsNum l (numQ l):=by
 obtain ⟨x,hx⟩:=jaQ.1 h;rw [hx.numQ];exact hx
noncomputable def mst (l:List UInt8):Int:=if chk l=0 then (if numQ l < 0∨100≤numQ l then 3 else 0) else chk l
theorem jaP {w:World} {l:List UInt8} {k:Int} (hk:chk l=k) (hE:Env w) (hl:l.length < 4294967281):Calls Tryz.prog 30 #[bs l] w fun e w'=>e= .returned (.int .i64 k)∧Below w.heap.size w w':=hk ▸ jgV hE hl
theorem jb9 {w:World} {s t:Int} {A B:Option Addr} {n c m d:Nat} {x:Rat} {k:Int} (hk:sgn x.num=k) (h:RepF w s A n c t B m d x):Calls Tryz.prog 32 #[fv s A n c t B m d] w fun e w'=>e= .returned (.int .i64 k)∧Below w.heap.size w w':=hk ▸ jm3 h
theorem jkM {x:Rat}:x.num < 0↔x < 0:=by rw [Rat.lt_iff];simp
theorem jsc {k n:Nat} (h:k < 10^n):k≤B64^n:=Nat.le_of_lt (Nat.lt_of_lt_of_le h (Nat.pow_le_pow_left (by rw [ja7];omega) n))
theorem jdI (n:Nat):n < 10^(Go.Lib.decDigits n).length:=by
 have h:=Dig.val_lt (Go.Lib.decDigits n) (Dig.digits_dig n).1;rwa [Dig.val_digits] at h
theorem jpg {n k:Nat} (h:(Go.Lib.decDigits n).length≤k):n≤B64^k:=Nat.le_trans (jsc (jdI _)) (Nat.pow_le_pow_right ja9 h)
theorem jsk {k:Nat} {x:Rat} (h1:(Go.Lib.decDigits x.num.natAbs).length≤k) (h2:(Go.Lib.decDigits x.den).length≤k):Sz k x:=⟨jpg h1,jpg h2⟩
theorem IsNum.sz {l:List UInt8} {x:Rat} (h:IsNum l x):Sz 600 x:=jsk h.num h.den
theorem jdG {a:Int} (h:R64 a):Sz 1 (a:Rat):=Sz.int (by rw [Nat.pow_one,ja7];have:=h.1;have:=h.2;omega)
theorem jeV {w:World} {a:Int} {x:Rat} (hx:(a:Rat)=x) (h:R64 a):Calls Tryz.prog 29 #[.int .i64 a] w (jad x w):=hx ▸ jsf h

section
variable {w:World} {l:List UInt8} {x:Rat}
theorem jmV {k:Int} (hE:Env w) (hl:l.length < 4294967281) (hk:chk l=k) (h0:k≠0):Calls Tryz.prog 79 #[bs l] w fun e w'=>e= .returned (.int .i64 k)∧Below w.heap.size w w':=by
 have HE:=qh hE;have HL:=qh hl;have HK:=qh hk;have q1:(k != 0)=true:=by rw [bne_iff_ne];exact h0
 clear hE hl hk h0;go_enter Tryz.func79,Tryz.ntmps79;go_wp2_with (go_at_call 30;(with_reducible refine mo0 (jaP HK.out (HE.out.below bi) HL.out) fun w1 hb1 hc1 hf1 _=> ?_))
 go_ret;exact ⟨rfl,bi⟩
theorem jm1 (hE:Env w) (hl:l.length < 4294967281) (hx:IsNum l x) (h0:x < 0):Calls Tryz.prog 79 #[bs l] w fun e w'=>e= .returned (.int .i64 3)∧Below w.heap.size w w':=by
 have HE:=qh hE;have HL:=qh hl;have HK:=qh (jaQ.2 ⟨x,hx⟩);have HX:=qh hx;have HS:=qh (show sgn x.num= -1 by unfold sgn;rw [if_pos (jkM.2 h0)]);clear hE hl hx h0;go_enter Tryz.func79,Tryz.ntmps79;go_wp2_with (first|(go_at_call 30;(with_reducible refine mo0 (jaP HK.out (HE.out.below bi) HL.out) fun w1 hb1 hc1 hf1 _=> ?_))|(go_at_call 31;(with_reducible refine mf0 (jaz HX.out (HE.out.below bi)) fun w2 s2 A2 n2 c2 t2 B2 m2 d2 hr2 hq2 hb2 hc2 hf2 _=> ?_)))
 refine ja3 (fun w'=>Below (w2.alloc (.cells #[.int .i64 s2, .slice A2 n2 c2, .int .i64 t2, .slice B2 m2 d2] 71)).heap.size (w2.alloc (.cells #[.int .i64 s2, .slice A2 n2 c2, .int .i64 t2, .slice B2 m2 d2] 71)) w') [] (by kernel_rfl) ?_;refine tb 0 (.agg #[.int .i64 s2, .slice A2 n2 c2, .int .i64 t2, .slice B2 m2 d2]) [1] rfl (by kernel_rfl) pk rfl (by intros;go_simp) bq0 ?_;simp only [ppq];refine rd1 1 (by kernel_rfl) rfl (fun K hK=> ?_);go_simp;go_wp2_with (go_at_call 32;(with_reducible refine mo0 (jb9 HS.out ⟨(by with_reducible repeat first|assumption|apply rZ|refine rP ?_ rfl (by simp [go_sem,hc2])),(by with_reducible repeat first|assumption|apply rZ|refine rP ?_ rfl (by simp [go_sem,hc2]))⟩) fun w3 hb3 hc3 hf3 _=> ?_))
 have sS3:=qh (bst bq0 hb3);refine hK.out _ _ (fun _=>sS3.out) ?_;clear hK K;refine rd1 2 (by kernel_rfl) rfl (fun K hK=> ?_);go_simp;refine hK.out _ _ (fun _=>bi) ?_;clear hK K;refine rd1 3 (by kernel_rfl) rfl (fun K hK=> ?_);go_simp;refine hK.out _ _ (fun _=>bi) ?_;clear hK K;refine ts 4 [] rfl (by kernel_rfl) pk (by rfl) sS3.out ?_;simp only [ppq];refine rd1 5 (by kernel_rfl) rfl (fun K hK=> ?_);go_simp;refine hK.out _ _ (fun _=>bi) ?_;clear hK K;refine rd1 6 (by kernel_rfl) rfl (fun K hK=> ?_);go_simp;refine hK.out _ _ (fun _=>bi) ?_;clear hK K;refine rd1 7 (by kernel_rfl) rfl (fun K hK=> ?_);go_simp;refine hK.out _ _ (fun _=>bi) ?_;clear hK K;refine rd1 8 (by kernel_rfl) rfl (fun K hK=> ?_);go_simp;refine hK.out _ _ (fun _=>bi) ?_;clear hK K;refine ja2 (by kernel_rfl) ?_ _;go_wp2;go_ret;exact ⟨rfl,bi⟩

theorem joO {b:Bool} (hE:Env w) (hl:l.length < 4294967281) (hx:IsNum l x) (h0:0≤x) (hb:decide (0≤Rq.cmpQ x 100)=b):Calls Tryz.prog 79 #[bs l] w fun e w'=>e= .returned (.int .i64 (if b then 3 else 0))∧Below w.heap.size w w':=by
 have HE:=qh hE;have HL:=qh hl;have HK:=qh (jaQ.2 ⟨x,hx⟩);have HX:=qh hx;obtain ⟨k,hk⟩:∃k,sgn x.num=k:=⟨_,rfl⟩
 have hk0:0≤k:=by
  rw [←hk];unfold sgn;have:¬x.num < 0:=fun h=>Rat.not_lt.2 h0 (jkM.1 h)
  rw [if_neg this];split <;> omega
 have q1:decide (k < 0)=false:=by simp;omega
 have HS:=qh hk;obtain ⟨j,hj⟩:∃j,Rq.cmpQ x 100=j:=⟨_,rfl⟩;have HJ:=qh hj;rw [hj] at hb;have HF:=qh (show ((100:Int):Rat)=100 from rfl);have HR:=qh (show R64 100 by constructor <;> decide);have H1:=qh hx.sz;have H2:=qh (jdG HR.out);rw [HF.out] at H2;clear hE hl hx h0 hk hj hk0;cases b
 all_goals
  go_enter Tryz.func79,Tryz.ntmps79;go_wp2_with (first|(go_at_call 30;(with_reducible refine mo0 (jaP HK.out (HE.out.below bi) HL.out) fun w1 hb1 hc1 hf1 _=> ?_))|(go_at_call 31;(with_reducible refine mf0 (jaz HX.out (HE.out.below bi)) fun w2 s2 A2 n2 c2 t2 B2 m2 d2 hr2 hq2 hb2 hc2 hf2 _=> ?_)))
  refine ja3 (fun w'=>Below (w2.alloc (.cells #[.int .i64 s2, .slice A2 n2 c2, .int .i64 t2, .slice B2 m2 d2] 71)).heap.size (w2.alloc (.cells #[.int .i64 s2, .slice A2 n2 c2, .int .i64 t2, .slice B2 m2 d2] 71)) w') [] (by kernel_rfl) ?_;refine tb 0 (.agg #[.int .i64 s2, .slice A2 n2 c2, .int .i64 t2, .slice B2 m2 d2]) [1] rfl (by kernel_rfl) pk rfl (by intros;go_simp) bq0 ?_;simp only [ppq];refine rd1 1 (by kernel_rfl) rfl (fun K hK=> ?_);go_simp;go_wp2_with (go_at_call 32;(with_reducible refine mo0 (jb9 HS.out ⟨(by with_reducible repeat first|assumption|apply rZ|refine rP ?_ rfl (by simp [go_sem,hc2])),(by with_reducible repeat first|assumption|apply rZ|refine rP ?_ rfl (by simp [go_sem,hc2]))⟩) fun w3 hb3 hc3 hf3 _=> ?_))
  have sS3:=qh (bst bq0 hb3);refine hK.out _ _ (fun _=>sS3.out) ?_;clear hK K;refine rd1 2 (by kernel_rfl) rfl (fun K hK=> ?_);go_simp;refine hK.out _ _ (fun _=>bi) ?_;clear hK K;refine rd1 3 (by kernel_rfl) rfl (fun K hK=> ?_);go_simp;refine hK.out _ _ (fun _=>bi) ?_;clear hK K;have hy3:w2.heap.size < w3.heap.size:=by have:=hb3.size;simp at this;omega
  refine tb 4 (.agg #[.int .i64 s2, .slice A2 n2 c2, .int .i64 t2, .slice B2 m2 d2]) [6] rfl (by kernel_rfl) pk rfl (by intros;go_simp) sS3.out ?_;simp only [ppq];refine rd1 5 (by kernel_rfl) rfl (fun K hK=> ?_);go_simp;go_wp2_with (go_at_call 29;(with_reducible refine mf0 (jeV HF.out HR.out) fun w4 s4 A4 n4 c4 t4 B4 m4 d4 hr4 hq4 hb4 hc4 hf4 _=> ?_))
  have sS4:=qh (bst sS3.out hb4);refine hK.out _ _ (fun _=>sS4.out) ?_;clear hK K;refine rd1 6 (by kernel_rfl) rfl (fun K hK=> ?_);go_simp;go_wp2_with (go_at_call 72;(with_reducible refine mo0 (jaV 600 1 HJ.out ⟨(by with_reducible repeat first|assumption|apply rZ|refine rP ?_ rfl (by simp [go_sem,hc2])),(by with_reducible repeat first|assumption|apply rZ|refine rP ?_ rfl (by simp [go_sem,hc2]))⟩ ⟨hr4,hq4⟩ H1.out H2.out (by omega)) fun w5 hb5 hc5 hf5 _=> ?_))
  have sS5:=qh (bst sS4.out hb5);refine hK.out _ _ (fun _=>sS5.out) ?_;clear hK K;refine rd1 7 (by kernel_rfl) rfl (fun K hK=> ?_);go_simp;refine hK.out _ _ (fun _=>bi) ?_;clear hK K;refine rd1 8 (by kernel_rfl) rfl (fun K hK=> ?_);go_simp;refine hK.out _ _ (fun _=>bi) ?_;clear hK K;refine ja2 (by kernel_rfl) ?_ _;go_wp2;go_ret;exact ⟨rfl,bi⟩
end

theorem jim {x:Rat}:decide (0≤Rq.cmpQ x 100)=decide (100≤x):=by
 rw [decide_eq_decide];constructor
 ·intro h;exact Rat.not_lt.1 (fun h1=>by have:=Rq.cmp_neg.2 h1;omega)
 ·intro h;rcases Int.lt_or_le (Rq.cmpQ x 100) 0 with h1|h1
  ·exact absurd h (Rat.not_le.2 (Rq.cmp_neg.1 h1))
  ·exact h1
section
variable {w:World} {l a b:List UInt8} {x y:Rat}
theorem jlP (hE:Env w) (hl:l.length < 4294967281):Calls Tryz.prog 79 #[bs l] w fun e w'=>e= .returned (.int .i64 (mst l))∧Below w.heap.size w w':=by
 unfold mst;by_cases h:chk l=0
 ·rw [if_pos h];have hx:=jbQ h;generalize numQ l=x at hx;by_cases h0:x < 0
  ·rw [if_pos (Or.inl h0)];exact jm1 hE hl hx h0
  ·have:=joO hE hl hx (Rat.not_lt.1 h0) jim;by_cases h1:100≤x
   ·rw [if_pos (Or.inr h1)];simpa [h1] using this
   ·rw [if_neg (fun h2=>h2.elim h0 h1)];simpa [h1] using this
 ·rw [if_neg h];exact jmV hE hl rfl h
structure IsMoist (l:List UInt8) (x:Rat):Prop where
 num:IsNum l x
 low:0≤x
 high:x < 100
theorem IsMoist.mst {l:List UInt8} {x:Rat} (h:IsMoist l x):mst l=0:=by
 unfold Proofs.YteokfcjdfjhhhaaGreatDoor.mst;rw [if_pos (jaQ.2 ⟨x,h.num⟩),h.num.numQ,if_neg];intro h1;exact h1.elim (fun h2=>Rat.not_lt.2 h.low h2) (fun h2=>Rat.not_lt.2 h2 h.high)
theorem jct {w:World} {s t u v:Int} {A B C D:Option Addr} {n c m d i k j l:Nat} {x y z:Rat} (p q:Nat) (hz:x - y=z) (h:RepF w s A n c t B m d x) (h':RepF w u C i k v D j l y) (hs:Sz p x) (hs':Sz q y) (hpq:p+q+1 < 100000):
  Calls Tryz.prog 115 #[fv s A n c t B m d,fv u C i k v D j l] w (jad z w):=hz ▸ jnF h h' hs hs' hpq
theorem jc1 {w:World} {s t u v:Int} {A B C D:Option Addr} {n c m d i k j l:Nat} {x y z:Rat} (p q:Nat) (hz:x / y=z) (h:RepF w s A n c t B m d x) (h':RepF w u C i k v D j l y) (hs:Sz p x) (hs':Sz q y) (hpq:p+q < 100000) (hy:y≠0):
  Calls Tryz.prog 44 #[fv s A n c t B m d,fv u C i k v D j l] w (jad z w):=hz ▸ jo6 h h' hs hs' hpq hy
theorem jl3 {z:Rat} (hE:Env w) (hx:IsNum l x) (hz:100 - x=z):Calls Tryz.prog 80 #[bs l] w (jad z w):=by
 have HE:=qh hE;have HX:=qh hx;have HF:=qh (show ((100:Int):Rat)=100 from rfl);have HR:=qh (show R64 100 by constructor <;> decide);have H1:=qh hx.sz;have H2:=qh (jdG HR.out);rw [HF.out] at H2;have HZ:=qh hz;clear hE hx hz;go_enter Tryz.func80,Tryz.ntmps80
 go_wp2_with (first
  | (go_at_call 29;(with_reducible refine mf1 w (jeV HF.out HR.out) (by go_size) fun w1 s1 A1 n1 c1 t1 B1 m1 d1 hr1 hq1 hb1 hc1 hf1 z1_0 _=> ?_))
  | (go_at_call 31;(with_reducible refine mf1 w (jaz HX.out (HE.out.below bi)) (by go_size) fun w2 s2 A2 n2 c2 t2 B2 m2 d2 hr2 hq2 hb2 hc2 hf2 z2_0 _=> ?_))
  | (go_at_call 115;(with_reducible refine mf1 w (jct 1 600 HZ.out ⟨(by with_reducible repeat first|assumption|apply rZ|refine rP ?_ rfl (by simp [go_sem,hc2])),(by with_reducible repeat first|assumption|apply rZ|refine rP ?_ rfl (by simp [go_sem,hc2]))⟩ ⟨hr2,hq2⟩ H2.out H1.out (by omega)) (by go_size) fun w3 s3 A3 n3 c3 t3 B3 m3 d3 hr3 hq3 hb3 hc3 hf3 z3_0 _=> ?_)))
 exact bodyPost_ret (v:= .agg #[.int .i64 (s3), .slice (A3) (n3) (c3), .int .i64 (t3), .slice (B3) (m3) (d3)]) (by simp [results,Tryz.results80,go_sem,hc3,z2_0,hc2,z1_0,hc1]) rfl (jap rfl ⟨(by with_reducible repeat first|assumption|apply rZ|refine rP ?_ rfl (by simp [go_sem,hc3,z2_0,hc2,z1_0,hc1])),(by with_reducible repeat first|assumption|apply rZ|refine rP ?_ rfl (by simp [go_sem,hc3,z2_0,hc2,z1_0,hc1]))⟩ bi)

theorem jrB {y:Rat} (h:y < 100):100 - y≠0:=fun e=>by
 have h1:y=100:=by
  have:=congrArg (· +y) e;simp only [Rat.sub_eq_add_neg,Rat.add_assoc,Rat.neg_add_cancel,Rat.add_zero,Rat.zero_add] at this;exact this.symm
 rw [h1] at h;exact Rat.lt_irrefl h
theorem jr6 {mass:Int} {z:Rat} {tz:List UInt8} {ez:Int} (hE:Env w) (hx:IsMoist a x) (hy:IsMoist b y) (h0:0≤mass) (h1:mass≤999999999) (hz:(mass:Rat)*(100 - x) / (100 - y)=z) (hS:StrQ z) (ht:jbC z=tz) (he:jbq z=ez) (hla:a.length < 4294967281) (hlb:b.length < 4294967281):
  Calls Tryz.prog 25 #[.int .i64 mass,bs a,bs b] w fun e w'=>e= .returned (.tuple #[bs tz, .int .i64 ez])∧Below w.heap.size w w':=by
 have HE:=qh hE;have HX:=qh hx;have HY:=qh hy;have HRM:=qh (show R64 mass from ⟨by omega,by omega⟩);have HZ:=qh hz;have HS:=qh hS;have HT:=qh (And.intro ht he);have q1:decide (mass < 0)=false:=by simp;omega
 have q2:decide (999999999 < mass)=false:=by simp;omega
 have H1:=qh (jdG HRM.out);have H100:Sz 1 (100:Rat):=jdG (a:=100) (by constructor <;> decide);have H2:=qh (H100.sub hx.num.sz);have H3:=qh (H100.sub hy.num.sz);have H4:=qh (H1.out.mul H2.out);have HNE:=qh (jrB hy.high)
 have HCA:Hid (∀W (A:Option Addr) (n c:Nat),Below w.heap.size w W→Sv W A n [a,b]→n≤100000→Calls Tryz.prog 78 #[.func (.func 79) #[] #[], .slice A n c] W fun e w'=>e= .returned (.int .i64 0)∧Below W.heap.size W w'):=qh (fun W A n c hb hs hn=>by
  have h:=jfl (c:=c) (f:=mst) hs hn (fun l hl V hV=>by
   have hl2:l.length < 4294967281:=by
    rcases List.mem_cons.1 hl with rfl|hl
    ·exact hla
    ·rcases List.mem_cons.1 hl with rfl|hl
     ·exact hlb
     ·cases hl
   exact jlP ((hE.below hb).below hV) hl2)
  have e:jab mst [a,b]=0:=by simp [jab,hx.mst,hy.mst]
  rwa [e] at h)
 clear hE hx hy h0 h1 hz hS ht he hla hlb H100;go_enter Tryz.func25,Tryz.ntmps25
 go_wp2_with (first
  | (go_at_call 78;(with_reducible refine mo0 (HCA.out _ _ _ _ bi (Sv.two w _ a b) (by omega)) fun w1 hb1 hc1 hf1 _=> ?_))
  | (go_at_call 29;(with_reducible refine mf0 (jeV rfl HRM.out) fun w2 s2 A2 n2 c2 t2 B2 m2 d2 hr2 hq2 hb2 hc2 hf2 _=> ?_))
  | (go_at_call 80;(with_reducible show Calls _ _ #[bs a] _ _);(with_reducible refine mf0 (jl3 (HE.out.below bi) HX.out.num rfl) fun w3 s3 A3 n3 c3 t3 B3 m3 d3 hr3 hq3 hb3 hc3 hf3 _=> ?_))
  | (go_at_call 40;(with_reducible refine mf0 (jaI 1 602 rfl ⟨(by with_reducible repeat first|assumption|apply rZ|refine rP ?_ rfl (by simp [go_sem,hc3])),(by with_reducible repeat first|assumption|apply rZ|refine rP ?_ rfl (by simp [go_sem,hc3]))⟩ ⟨hr3,hq3⟩ H1.out H2.out (by omega)) fun w4 s4 A4 n4 c4 t4 B4 m4 d4 hr4 hq4 hb4 hc4 hf4 _=> ?_))
  | (go_at_call 80;(with_reducible show Calls _ _ #[bs b] _ _);(with_reducible refine mf0 (jl3 (HE.out.below bi) HY.out.num rfl) fun w5 s5 A5 n5 c5 t5 B5 m5 d5 hr5 hq5 hb5 hc5 hf5 _=> ?_))
  | (go_at_call 44;(with_reducible refine mf0 (jc1 603 602 HZ.out ⟨(by with_reducible repeat first|assumption|apply rZ|refine rP ?_ rfl (by simp [go_sem,hc5])),(by with_reducible repeat first|assumption|apply rZ|refine rP ?_ rfl (by simp [go_sem,hc5]))⟩ ⟨hr5,hq5⟩ H4.out H3.out (by omega) HNE.out) fun w6 s6 A6 n6 c6 t6 B6 m6 d6 hr6 hq6 hb6 hc6 hf6 _=> ?_))
  | (go_at_call 43;(with_reducible refine mo0 (jdE HT.out.1 HT.out.2 ⟨hr6,hq6⟩ (HE.out.below bi) HS.out) fun w7 hb7 hc7 hf7 _=> ?_)))
 go_ret2;exact ⟨rfl,bi⟩
end
end Go.Proofs.YteokfcjdfjhhhaaGreatDoor
