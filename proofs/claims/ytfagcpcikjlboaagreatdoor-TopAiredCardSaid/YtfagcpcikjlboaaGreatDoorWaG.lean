/- Parts. -/
import Derived.Test.YtfagcpcikjlboaaGreatDoorPosG
import Derived.Shelf.Spec.BitsCarry
set_option linter.all false
set_option maxRecDepth 100000
set_option maxHeartbeats 8000000
namespace Go.Proofs.YtfagcpcikjlboaaGreatDoor
open Go Go.RowKit Go.Proofs.Tryz

theorem jhp (ds:List Nat) (k:Nat) (hk:k+1≤ds.length) (h0:dg ds k=0):Pos.nv B64 (ds.take (k+1))=Pos.nv B64 (ds.take k):=by
 rw [gd (by omega)] at h0;rw [Pos.nv_take_succ (by omega),h0];omega
theorem jf1 (ds:List Nat) (k:Nat) (hk:k+1≤ds.length) (h0:dg ds k≠0):Pos.Trim (ds.take (k+1)):=by
 rw [gd (by omega)] at h0;rw [List.take_succ_eq_append_getElem (by omega)];exact Pos.trim_snoc h0

def jjJ (A:Option Addr) (n c:Nat) (ds:List Nat) (w:World) (e:Ending) (w':World):Prop:=
 ∃k,k≤n∧Pos.Trim (ds.take k)∧Pos.nv B64 (ds.take k)=Pos.nv B64 ds∧e= .returned (.slice A k c)∧w=w'

theorem jkn {A:Option Addr} {n c k:Nat} {ds:List Nat} {w:World} {v:Value} (h1:k≤n) (h2:Pos.Trim (ds.take k)) (h3:Pos.nv B64 (ds.take k)=Pos.nv B64 ds) (h4:v= .slice A k c):
  jjJ A n c ds w (.returned v) w:=⟨k,h1,h2,h3,by rw [h4],rfl⟩

theorem jbd (A:Option Addr) (n c:Nat) (ds:List Nat) (w:World) (h:Wd w A n ds) (hn:n≤c) (hc:c < 1099511627776):
  Calls prog 167 #[.slice A n c] w (jjJ A n c ds w):=by
 have HD:=qh h;clear h;go_enter func167,ntmps167;go_wp2
 go_loop [3] (fun i=>∃k:Nat,k≤n∧i= .int .i64 k∧Hd (Pos.nv B64 (ds.take k)=Pos.nv B64 ds)) (fun i=>(intOf i).toNat)
 case atStart=>exact ⟨n,Nat.le_refl _,rfl,by have:=HD.o.len;show _=_;rw [←this,List.take_length]⟩
 case round=>
  obtain ⟨k,hk,rfl,HV⟩:=hrel;cases k with
  | zero=>
    go_wp2;go_ret;exact jkn (Nat.zero_le _) (by rw [List.take_zero];exact Pos.Trim.nil) HV.o (by simp)
  | succ k=>
    obtain ⟨b,o,rfl,hlt,hcell⟩:=HD.o.at_ (by omega);have hl:=HD.o.len;have hcl:=hcell k (by omega);have HL:=qh hl;clear hcell hl;by_cases h0:dg ds k=0
    ·have hcl':w.cell? ⟨b,o+k,none⟩=some (.int .u64 0):=by rw [hcl,h0];rfl
     have H0:=qh h0;clear hcl h0;go_wp2
     go_round
     case rel=>exact ⟨k,by omega,by go_num,by show _=_;rw [←HV.o,jhp ds k (by have:=HL.o;omega) H0.o]⟩
     case measure=>simp [intOf]
    ·have hb:(((dg ds k:Nat):Int)==0)=false:=by rw [beq_eq_false_iff_ne];omega
     have H0:=qh h0;clear h0;go_wp2;go_ret;exact jkn hk (jf1 ds k (by have:=HL.o;omega) H0.o) HV.o (by simp)

abbrev jgu (x y:Nat) (w:World) (e:Ending) (w':World):Prop:=e= .returned (.int .i64 (sgn ((x:Int) - (y:Int))))∧Below w.heap.size w w'
theorem jby {x y:Nat} {w w':World} {v:Value} {z:Int} (h1:v= .int .i64 z) (h2:z=sgn ((x:Int) - (y:Int))) (h3:Below w.heap.size w w'):jgu x y w (.returned v) w':=⟨by rw [h1,h2],h3⟩
theorem jhU {x y:Nat} (h:x < y): -1=sgn ((x:Int) - (y:Int)):=by unfold sgn;rw [if_pos (by omega)]
theorem jhK {x y:Nat} (h:y < x):1=sgn ((x:Int) - (y:Int)):=by unfold sgn;rw [if_neg (by omega),if_pos (by omega)]
theorem jo5 {x y:Nat} (h:x=y):0=sgn ((x:Int) - (y:Int)):=by unfold sgn;rw [if_neg (by omega),if_neg (by omega)]
theorem jny {ds es:List Nat} {k:Nat} (hk:k < ds.length) (hl:ds.length=es.length) (h:ds.drop (k+1)=es.drop (k+1)) (e:dg ds k=dg es k):ds.drop k=es.drop k:=by
 have hk':k < es.length:=by omega
 rw [gd hk,gd hk'] at e;rw [List.drop_eq_getElem_cons hk,List.drop_eq_getElem_cons hk',h,e]

theorem jbR (A A':Option Addr) (n n' c c':Nat) (ds es:List Nat) (w:World) (h:Wd w A n ds) (h':Wd w A' n' es) (t:Pos.Trim ds) (t':Pos.Trim es):
  Calls prog 173 #[.slice A n c, .slice A' n' c'] w (jgu (Pos.nv B64 ds) (Pos.nv B64 es) w):=by
 have HD:=qh h;have HE:=qh h';have hn:=h.big;have hn':=h'.big;clear h h';rcases Nat.lt_trichotomy n n' with hlt|heq|hlt
 ·have b1:((n:Int) != (n':Int))=true:=by rw [bne_iff_ne];omega
  go_enter func173,ntmps173;go_wp2;go_ret;exact jby rfl (jhU (Pos.nv_lt_of_len ja6 HD.o.dig t' (by have:=HD.o.len;have:=HE.o.len;omega))) bi
 ·subst heq;go_enter func173,ntmps173;go_wp2
  go_loopw [5] (fun i wr=>∃k m:Nat,k≤n∧i= .int .i64 ((k:Int) - 1)∧wr=w.drewN m∧Hd (ds.drop k=es.drop k)) (fun i _=>(intOf i+1).toNat)
  case atStart=>
   refine ⟨n,0,Nat.le_refl _,rfl,rfl, ?_⟩;show _=_
   rw [List.drop_of_length_le (by have:=HD.o.len;omega),List.drop_of_length_le (by have:=HE.o.len;omega)]
  case round=>
   obtain ⟨k,m,hk,rfl,rfl,HV⟩:=hrel;cases k with
   | zero=>
     go_wp2;go_ret;refine jby (z:=0) (by simp) (jo5 ?_) bi;have:=HV.o;simp only [List.drop_zero] at this;rw [this]
   | succ k=>
     obtain ⟨b,o,rfl,hlt,hcell⟩:=HD.o.at_ (by omega);obtain ⟨b',o',rfl,hlt',hcell'⟩:=HE.o.at_ (by omega);have hcl:=hcell k (by omega);have hcl':=hcell' k (by omega);clear hcell hcell';have u1:=ja8 HD.o.dig k;have u2:=ja8 HE.o.dig k;have hk0:(0:Int)≤(k:Int):=by omega
     have hk1:(k:Int) < (n:Int):=by omega
     rcases Nat.lt_trichotomy (dg ds k) (dg es k) with hx|hx|hx
     ·have b1:(((dg ds k:Nat):Int) != ((dg es k:Nat):Int))=true:=by rw [bne_iff_ne];omega
      go_wp2
      go_quiet (fail)
      go_wp2
      go_quiet (fail)
      go_wp2;go_ret;refine jby (z:= -1) (by simp) (jhU ?_) bi;refine Pos.nv_lt_of_top HD.o.dig (by have:=HD.o.len;have:=HE.o.len;omega) k (by have:=HD.o.len;omega) HV.o ?_;rw [←gd,←gd];exact hx
     ·have b1:(((dg ds k:Nat):Int) != ((dg es k:Nat):Int))=false:=by rw [bne_eq_false_iff_eq];omega
      have HX:=qh hx;clear hx;go_wp2
      go_quiet (fail)
      go_wp2
      go_roundw
      case rel=>exact ⟨k,_,by omega,by go_num,rfl,jny (by have:=HD.o.len;omega) (by have:=HD.o.len;have:=HE.o.len;omega) HV.o HX.o⟩
      case measure=>simp [intOf]
     ·have b1:(((dg ds k:Nat):Int) != ((dg es k:Nat):Int))=true:=by rw [bne_iff_ne];omega
      go_wp2
      go_quiet (fail)
      go_wp2
      go_quiet (fail)
      go_wp2;go_ret;refine jby (z:=1) (by simp) (jhK ?_) bi;refine Pos.nv_lt_of_top HE.o.dig (by have:=HD.o.len;have:=HE.o.len;omega) k (by have:=HE.o.len;omega) HV.o.symm ?_;rw [←gd,←gd];exact hx
 ·have b1:((n:Int) != (n':Int))=true:=by rw [bne_iff_ne];omega
  have b2:¬(n:Int) < (n':Int):=by omega
  go_enter func173,ntmps173;go_wp2;go_ret;exact jby rfl (jhK (Pos.nv_lt_of_len ja6 HE.o.dig t (by have:=HD.o.len;have:=HE.o.len;omega))) bi

theorem jbG (x y c:Nat) (hc:c≤1) (w:World):
  (callFunc 166 #[.int .u64 x, .int .u64 y, .int .u64 c]).run prog w=
    .ok (.value (.tuple #[.int .u64 (((x+y+c) % B64:Nat):Int), .int .u64 (((x+y+c) / B64:Nat):Int)])) w:=by
 rw [run_callFunc_extern func166 (by kernel_rfl) (by kernel_rfl) (by kernel_rfl) (e:=add64Entry) (by kernel_rfl),run_add64 x y c (by omega) (by omega) (by omega) (by omega)];simp only [Result.andThen,ja3]
 congr 5 <;> omega
theorem jdC (x y b:Nat) (hb:b≤1) (w:World):
  (callFunc 210 #[.int .u64 x, .int .u64 y, .int .u64 b]).run prog w=
    .ok (.value (.tuple #[.int .u64 (((x+B64 - y - b) % B64:Nat):Int), .int .u64 ((if x < y+b then 1 else 0:Nat):Int)])) w:=by
 rw [run_callFunc_extern func210 (by kernel_rfl) (by kernel_rfl) (by kernel_rfl) (e:=sub64Entry) (by kernel_rfl),run_sub64 x y b hb];rfl

theorem jfe (x c:Nat) (hc:c≤1) (w:World):
  (callFunc 166 #[.int .u64 x, .int .u64 0, .int .u64 c]).run prog w=
    .ok (.value (.tuple #[.int .u64 (((x+0+c) % B64:Nat):Int), .int .u64 (((x+0+c) / B64:Nat):Int)])) w:=jbG x 0 c hc w
theorem jiY (x b:Nat) (hb:b≤1) (w:World):
  (callFunc 210 #[.int .u64 x, .int .u64 0, .int .u64 b]).run prog w=
    .ok (.value (.tuple #[.int .u64 (((x+B64 - 0 - b) % B64:Nat):Int), .int .u64 ((if x < 0+b then 1 else 0:Nat):Int)])) w:=jdC x 0 b hb w

theorem jbJ {l:List Nat} {k:Nat} (h:l.length≤k):dg l k=0:=by simp [dg,List.getD_eq_getElem?_getD,h]
theorem jaB (l:List Nat) (k:Nat):Pos.nv B64 (l.take (k+1))=Pos.nv B64 (l.take k)+B64^k*dg l k:=by
 rcases Nat.lt_or_ge k l.length with h|h
 ·rw [Pos.nv_take_succ h,gd h]
 ·rw [jbJ h,List.take_of_length_le (by omega),List.take_of_length_le h];omega

structure AddInv (w wr:World) (g m k c:Nat) (xs ys zs:List Nat):Prop where
 len:zs.length=k
 dig:Pos.Dig B64 zs
 car:c≤1
 blk:Blk wr g 168 (jfH zs m)
 bel:Below w.heap.size w wr
 own:w.heap.size≤g
 val:Pos.nv B64 zs+B64^k*c=Pos.nv B64 (xs.take k)+Pos.nv B64 (ys.take k)

theorem jep {x y c:Nat} (hx:x < B64) (hy:y < B64) (hc:c≤1):(x+y+c) / B64≤1:=by
 have:(x+y+c) / B64 < 2:=(Nat.div_lt_iff_lt_mul ja6).2 (by omega);omega
theorem jsk {p x y c o X Y b:Nat} (h:o+p*c=X+Y):o+p*((x+y+c) % b)+p*b*((x+y+c) / b)=X+p*x+(Y+p*y):=by
 have h1:p*((x+y+c) % b)+p*b*((x+y+c) / b)=p*(x+y+c):=by
  rw [Nat.mul_assoc,←Nat.mul_add,Nat.mod_add_div]
 rw [Nat.mul_add,Nat.mul_add] at h1;omega
theorem AddInv.step {w wr:World} {g m k c:Nat} {xs ys zs:List Nat} (h:AddInv w wr g m k c xs ys zs) (hx:Pos.Dig B64 xs) (hy:Pos.Dig B64 ys) (hk:k < m):
  AddInv w (wr.setCell ⟨g,k,none⟩ (.int .u64 (((dg xs k+dg ys k+c) % B64:Nat):Int))) g m (k+1) ((dg xs k+dg ys k+c) / B64) xs ys (zs++[(dg xs k+dg ys k+c) % B64]) where
 len:=by simp [h.len]
 dig:=h.dig.snoc (Nat.mod_lt _ ja6)
 car:=jep (ja8 hx k) (ja8 hy k) h.car
 blk:=by
  have h1:=h.blk.set_ k (.int .u64 (((dg xs k+dg ys k+c) % B64:Nat):Int));have h2:=jgW zs m ((dg xs k+dg ys k+c) % B64) (by rw [h.len];exact hk);rw [h.len] at h2;rw [h2] at h1;exact h1
 bel:=h.bel.setCell h.own _
 own:=h.own
 val:=by rw [Pos.nv_snoc,h.len,jaB,jaB,Nat.pow_succ];exact jsk h.val
theorem AddInv.place {w wr:World} {g m k c:Nat} {xs ys zs:List Nat} (h:AddInv w wr g m k c xs ys zs) (hk:k < m):
  wr.cell? ⟨g,k,none⟩=some (.int .u64 0)∧wr.frozen? ⟨g,k,none⟩=false:=by
 refine ⟨?_,h.blk.frozen k⟩;rw [h.blk.cell,jeQ (by rw [h.len];omega) hk]

def jdK (x:Nat) (w:World) (e:Ending) (w':World):Prop:=
 ∃A n c ds,e= .returned (.slice A n c)∧n≤c∧c < 1099511627776∧Wd w' A n ds∧Pos.Trim ds∧Pos.nv B64 ds=x∧Below w.heap.size w w'


theorem AddInv.start (w:World) (m:Nat) (xs ys:List Nat):AddInv w (w.alloc (.cells (jfH [] m) 168)) w.heap.size m 0 0 xs ys [] where
 len:=rfl
 dig:=Pos.Dig.nil
 car:=by omega
 blk:=Blk.new _ _ _
 bel:=(Below.refl _ _).alloc (Nat.le_refl _) _
 own:=Nat.le_refl _
 val:=by simp [Pos.nv]
theorem AddInv.stop {w wr:World} {g n c:Nat} {xs ys zs:List Nat} (h:AddInv w wr g (n+1) n c xs ys zs) (hx:xs.length≤n) (hy:ys.length≤n) (hn:n < 549755813888):
  Wd (wr.setCell ⟨g,n,none⟩ (.int .u64 (c:Int))) (some ⟨g,0,none⟩) (n+1) (zs++[c])∧Pos.nv B64 (zs++[c])=Pos.nv B64 xs+Pos.nv B64 ys∧Below w.heap.size w (wr.setCell ⟨g,n,none⟩ (.int .u64 (c:Int))):=by
 have hc:=h.car;have hl:=h.len;refine ⟨Wd.of_blk (h.blk.set_ n _) ?_ (by simp [hl]) (by omega) (h.dig.snoc (by rw [ja3];omega)), ?_,h.bel.setCell h.own _⟩
 ·have h2:=jgW zs (n+1) c (by omega);rw [hl] at h2;rw [h2,←hl,show zs.length+1=(zs++[c]).length by simp,jhe]
 ·have:=h.val;rw [List.take_of_length_le hx,List.take_of_length_le hy] at this;rw [Pos.nv_snoc,hl,this]

theorem jh4 {A:Option Addr} {n c x:Nat} {ds:List Nat} {w w':World} {v:Value} (hv:v= .slice A n c) (h1:n≤c) (h2:c < 1099511627776) (h3:Wd w' A n ds) (h4:Pos.Trim ds) (h5:Pos.nv B64 ds=x) (h6:Below w.heap.size w w'):
  jdK x w (.returned v) w':=⟨A,n,c,ds,by rw [hv],h1,h2,h3,h4,h5,h6⟩


theorem jhN (A A':Option Addr) (n n' c c':Nat) (ds es:List Nat) (w:World) (h:Wd w A n ds) (h':Wd w A' n' es) (hn:n < 549755813888) (hn':n' < 549755813888):
  Calls prog 172 #[.slice A n c, .slice A' n' c'] w (jdK (Pos.nv B64 ds+Pos.nv B64 es) w):=by
 have HD:=qh h;have HE:=qh h';clear h h';by_cases hle:n'≤n
 ·have b1:¬(n:Int) < (n':Int):=by omega
  have hmk:=fun W=>jbs (n+1) (by omega) W
  simp only [Int.natCast_add,Int.natCast_one] at hmk;go_enter func172,ntmps172;go_wp2
  go_loopw [6,22] (fun cr i wr=>∃(k c:Nat) (zs:List Nat),k≤n∧i= .int .i64 k∧cr= .int .u64 c∧AddInv w wr w.heap.size (n+1) k c ds es zs) (fun _ i _=>n - (intOf i).toNat)
  case atStart=>exact ⟨0,0,[],Nat.zero_le _,rfl,rfl,AddInv.start _ _ _ _⟩
  case round=>
   obtain ⟨k,c,zs,hk,rfl,rfl,hI⟩:=hrel;by_cases hlt:k < n
   ·have hstep:=hI.step HD.o.dig HE.o.dig (by omega);obtain ⟨pl1,pl2⟩:=hI.place (by omega);obtain ⟨b,o,rfl,hb,hcell⟩:=(HD.o.below hI.bel).at_ (by omega);have hcl:=hcell k hlt;have hz:=HD.o.len;have hz':=HE.o.len;have hk0:(0:Int)≤(k:Int):=by omega
    have hk1:(k:Int) < (n:Int):=by omega
    have hk2:(k:Int) < (n:Int)+1:=by omega
    have ha:=jbG (dg ds k) (dg es k) c hI.car;have ha0:=jfe (dg ds k) c hI.car;by_cases hlt':k < n'
    ·obtain ⟨b',o',rfl,hb',hcell'⟩:=(HE.o.below hI.bel).at_ (by omega);have hcl':=hcell' k hlt';have hk3:(k:Int) < (n':Int):=by omega
     clear hcell hcell' ha0;have HI:=qh hI;have HS:=qh hstep;have HZ:=qh hz;have HZ':=qh hz';clear hI hstep hz hz';go_wp2
     go_roundw
     case rel=>exact ⟨k+1,_,_,by omega,by go_num,rfl,HS.o⟩
     case measure=>simp [intOf];omega
    ·have hk3:¬(k:Int) < (n':Int):=by omega
     have hd:dg es k=0:=jbJ (by omega);rw [hd] at hstep;clear hcell ha hd;have HI:=qh hI;have HS:=qh hstep;have HZ:=qh hz;have HZ':=qh hz';clear hI hstep hz hz';go_wp2
     go_roundw
     case rel=>exact ⟨k+1,_,_,by omega,by go_num,rfl,HS.o⟩
     case measure=>simp [intOf];omega
   ·have e:k=n:=by omega
    subst e;obtain ⟨pl1,pl2⟩:=hI.place (by omega);obtain ⟨st1,st2,st3⟩:=hI.stop (by have:=HD.o.len;omega) (by have:=HE.o.len;omega) hn;have hk2:(k:Int) < (k:Int)+1:=by omega
    have HI:=qh hI;have H1:=qh st1;have H2:=qh st2;have H3:=qh st3;clear hI st1 st2 st3;go_wp2_with (go_at_call 167;((with_reducible refine (jbd _ _ _ _ _ H1.o (Nat.le_refl _) (by omega)).mono ?_);rintro e w1 ⟨j,hj,ht,hv,rfl,rfl⟩))
    go_ret;refine jh4 rfl hj (by omega) (H1.o.take hj) ht (hv.trans ?_) H3.o;have:=H2.o;omega
 ·have b1:(n:Int) < (n':Int):=by omega
  have hmk:=fun W=>jbs (n'+1) (by omega) W
  simp only [Int.natCast_add,Int.natCast_one] at hmk;have hn0:=hn;clear hn;have hn:=hn';go_enter func172,ntmps172;go_wp2
  go_loopw [6,22] (fun cr i wr=>∃(k c:Nat) (zs:List Nat),k≤n'∧i= .int .i64 k∧cr= .int .u64 c∧AddInv w wr w.heap.size (n'+1) k c es ds zs) (fun _ i _=>n' - (intOf i).toNat)
  case atStart=>exact ⟨0,0,[],Nat.zero_le _,rfl,rfl,AddInv.start _ _ _ _⟩
  case round=>
   obtain ⟨k,c,zs,hk,rfl,rfl,hI⟩:=hrel;by_cases hlt:k < n'
   ·have hstep:=hI.step HE.o.dig HD.o.dig (by omega);obtain ⟨pl1,pl2⟩:=hI.place (by omega);obtain ⟨b,o,rfl,hb,hcell⟩:=(HE.o.below hI.bel).at_ (by omega);have hcl:=hcell k hlt;have hz:=HE.o.len;have hz':=HD.o.len;have hk0:(0:Int)≤(k:Int):=by omega
    have hk1:(k:Int) < (n':Int):=by omega
    have hk2:(k:Int) < (n':Int)+1:=by omega
    have ha:=jbG (dg es k) (dg ds k) c hI.car;have ha0:=jfe (dg es k) c hI.car;by_cases hlt':k < n
    ·obtain ⟨b',o',rfl,hb',hcell'⟩:=(HD.o.below hI.bel).at_ (by omega);have hcl':=hcell' k hlt';have hk3:(k:Int) < (n:Int):=by omega
     clear hcell hcell' ha0;have HI:=qh hI;have HS:=qh hstep;have HZ:=qh hz;have HZ':=qh hz';clear hI hstep hz hz';go_wp2
     go_roundw
     case rel=>exact ⟨k+1,_,_,by omega,by go_num,rfl,HS.o⟩
     case measure=>simp [intOf];omega
    ·have hk3:¬(k:Int) < (n:Int):=by omega
     have hd:dg ds k=0:=jbJ (by omega);rw [hd] at hstep;clear hcell ha hd;have HI:=qh hI;have HS:=qh hstep;have HZ:=qh hz;have HZ':=qh hz';clear hI hstep hz hz';go_wp2
     go_roundw
     case rel=>exact ⟨k+1,_,_,by omega,by go_num,rfl,HS.o⟩
     case measure=>simp [intOf];omega
   ·have e:k=n':=by omega
    subst e;obtain ⟨pl1,pl2⟩:=hI.place (by omega);obtain ⟨st1,st2,st3⟩:=hI.stop (by have:=HE.o.len;omega) (by have:=HD.o.len;omega) hn;have hk2:(k:Int) < (k:Int)+1:=by omega
    have HI:=qh hI;have H1:=qh st1;have H2:=qh st2;have H3:=qh st3;clear hI st1 st2 st3;go_wp2_with (go_at_call 167;((with_reducible refine (jbd _ _ _ _ _ H1.o (Nat.le_refl _) (by omega)).mono ?_);rintro e w1 ⟨j,hj,ht,hv,rfl,rfl⟩))
    go_ret;refine jh4 rfl hj (by omega) (H1.o.take hj) ht (hv.trans ?_) H3.o;have:=H2.o;omega

structure SubInv (w wr:World) (g m k c:Nat) (xs ys zs:List Nat):Prop where
 len:zs.length=k
 dig:Pos.Dig B64 zs
 car:c≤1
 blk:Blk wr g 168 (jfH zs m)
 bel:Below w.heap.size w wr
 own:w.heap.size≤g
 val:Pos.nv B64 zs+Pos.nv B64 (ys.take k)=Pos.nv B64 (xs.take k)+B64^k*c

theorem jc8 {x y c b:Nat} (hx:x < b) (hy:y < b) (hc:c≤1):(x+b - y - c) % b+(y+c)=x+b*(if x < y+c then 1 else 0):=by
 by_cases h:x < y+c
 ·rw [if_pos h,Nat.mod_eq_of_lt (by omega)];omega
 ·rw [if_neg h,show x+b - y - c=(x - (y+c))+b by omega,Nat.add_mod_right,Nat.mod_eq_of_lt (by omega)];omega
theorem jrj {p x y c o X Y b d e:Nat} (h:o+Y=X+p*c) (hd:d+(y+c)=x+b*e):o+p*d+(Y+p*y)=X+p*x+p*b*e:=by
 have h1:=congrArg (p* ·) hd;simp only [Nat.mul_add] at h1;rw [Nat.mul_assoc];omega
theorem SubInv.step {w wr:World} {g m k c:Nat} {xs ys zs:List Nat} (h:SubInv w wr g m k c xs ys zs) (hx:Pos.Dig B64 xs) (hy:Pos.Dig B64 ys) (hk:k < m):
  SubInv w (wr.setCell ⟨g,k,none⟩ (.int .u64 (((dg xs k+B64 - dg ys k - c) % B64:Nat):Int))) g m (k+1) (if dg xs k < dg ys k+c then 1 else 0) xs ys (zs++[(dg xs k+B64 - dg ys k - c) % B64]) where
 len:=by simp [h.len]
 dig:=h.dig.snoc (Nat.mod_lt _ ja6)
 car:=by split <;> omega
 blk:=by
  have h1:=h.blk.set_ k (.int .u64 (((dg xs k+B64 - dg ys k - c) % B64:Nat):Int));have h2:=jgW zs m ((dg xs k+B64 - dg ys k - c) % B64) (by rw [h.len];exact hk);rw [h.len] at h2;rw [h2] at h1;exact h1
 bel:=h.bel.setCell h.own _
 own:=h.own
 val:=by
  rw [Pos.nv_snoc,h.len,jaB,jaB,Nat.pow_succ];exact jrj h.val (jc8 (ja8 hx k) (ja8 hy k) h.car)
theorem SubInv.place {w wr:World} {g m k c:Nat} {xs ys zs:List Nat} (h:SubInv w wr g m k c xs ys zs) (hk:k < m):
  wr.cell? ⟨g,k,none⟩=some (.int .u64 0)∧wr.frozen? ⟨g,k,none⟩=false:=by
 refine ⟨?_,h.blk.frozen k⟩;rw [h.blk.cell,jeQ (by rw [h.len];omega) hk]
theorem SubInv.start (w:World) (m:Nat) (xs ys:List Nat):SubInv w (w.alloc (.cells (jfH [] m) 168)) w.heap.size m 0 0 xs ys [] where
 len:=rfl
 dig:=Pos.Dig.nil
 car:=by omega
 blk:=Blk.new _ _ _
 bel:=(Below.refl _ _).alloc (Nat.le_refl _) _
 own:=Nat.le_refl _
 val:=by simp [Pos.nv]
theorem SubInv.stop {w wr:World} {g n c:Nat} {xs ys zs:List Nat} (h:SubInv w wr g n n c xs ys zs) (hx:xs.length≤n) (hy:ys.length≤n) (hn:n < 549755813888) (hle:Pos.nv B64 ys≤Pos.nv B64 xs):
  Wd wr (some ⟨g,0,none⟩) n zs∧Pos.nv B64 zs=Pos.nv B64 xs - Pos.nv B64 ys:=by
 have hl:=h.len;refine ⟨Wd.of_blk h.blk (by rw [←hl,jhe]) hl (by omega) h.dig, ?_⟩;have hv:=h.val;rw [List.take_of_length_le hx,List.take_of_length_le hy] at hv;have hlt:=Pos.nv_lt h.dig;rw [hl] at hlt;have hc:=h.car
 have h0:c=0:=by
  rcases Nat.eq_zero_or_pos c with h0|h0
  ·exact h0
  ·have:c=1:=by omega
   subst this;omega
 subst h0;omega

theorem jdW {xs ys:List Nat} (hx:Pos.Dig B64 xs) (ty:Pos.Trim ys) (hle:Pos.nv B64 ys≤Pos.nv B64 xs):ys.length≤xs.length:=by
 rcases Nat.lt_or_ge xs.length ys.length with h|h
 ·have:=Pos.nv_lt_of_len ja6 hx ty h;omega
 ·exact h

theorem jhO (A A':Option Addr) (n n' c c':Nat) (ds es:List Nat) (w:World) (h:Wd w A n ds) (h':Wd w A' n' es) (hn:n < 549755813888) (te:Pos.Trim es) (hle:Pos.nv B64 es≤Pos.nv B64 ds):
  Calls prog 174 #[.slice A n c, .slice A' n' c'] w (jdK (Pos.nv B64 ds - Pos.nv B64 es) w):=by
 have hll:=jdW h.dig te hle;rw [h.len,h'.len] at hll;have HD:=qh h;have HE:=qh h';clear h h';have hmk:=fun W=>jbs n (by omega) W
 go_enter func174,ntmps174;go_wp2
 go_loopw [6,14] (fun cr i wr=>∃(k c:Nat) (zs:List Nat),k≤n∧i= .int .i64 k∧cr= .int .u64 c∧SubInv w wr w.heap.size n k c ds es zs) (fun _ i _=>n - (intOf i).toNat)
 case atStart=>exact ⟨0,0,[],Nat.zero_le _,rfl,rfl,SubInv.start _ _ _ _⟩
 case round=>
  obtain ⟨k,c,zs,hk,rfl,rfl,hI⟩:=hrel;by_cases hlt:k < n
  ·have hstep:=hI.step HD.o.dig HE.o.dig (by omega);obtain ⟨pl1,pl2⟩:=hI.place (by omega);obtain ⟨b,o,rfl,hb,hcell⟩:=(HD.o.below hI.bel).at_ (by omega);have hcl:=hcell k hlt;have hz:=HD.o.len;have hz':=HE.o.len;have hk0:(0:Int)≤(k:Int):=by omega
   have hk1:(k:Int) < (n:Int):=by omega
   have ha:=jdC (dg ds k) (dg es k) c hI.car;have ha0:=jiY (dg ds k) c hI.car;by_cases hlt':k < n'
   ·obtain ⟨b',o',rfl,hb',hcell'⟩:=(HE.o.below hI.bel).at_ (by omega);have hcl':=hcell' k hlt';have hk3:(k:Int) < (n':Int):=by omega
    clear hcell hcell' ha0;have HI:=qh hI;have HS:=qh hstep;have HZ:=qh hz;have HZ':=qh hz';clear hI hstep hz hz';generalize (if dg ds k < dg es k+c then 1 else 0:Nat)=c2 at ha HS;go_wp2
    go_roundw
    case rel=>exact ⟨k+1,_,_,by omega,by go_num,rfl,HS.o⟩
    case measure=>simp [intOf];omega
   ·have hk3:¬(k:Int) < (n':Int):=by omega
    have hd:dg es k=0:=jbJ (by omega);rw [hd] at hstep;clear hcell ha hd;have HI:=qh hI;have HS:=qh hstep;have HZ:=qh hz;have HZ':=qh hz';clear hI hstep hz hz';generalize (if dg ds k < 0+c then 1 else 0:Nat)=c2 at ha0 HS;go_wp2
    go_roundw
    case rel=>exact ⟨k+1,_,_,by omega,by go_num,rfl,HS.o⟩
    case measure=>simp [intOf];omega
  ·have e:k=n:=by omega
   subst e;obtain ⟨st1,st2⟩:=hI.stop (by have:=HD.o.len;omega) (by have:=HE.o.len;omega) hn hle;have st3:=hI.bel;have HI:=qh hI;have H1:=qh st1;have H2:=qh st2;have H3:=qh st3;clear hI st1 st2 st3;go_wp2_with (go_at_call 167;((with_reducible refine (jbd _ _ _ _ _ H1.o (Nat.le_refl _) (by omega)).mono ?_);rintro e w1 ⟨j,hj,ht,hv,rfl,rfl⟩))
   go_ret;exact jh4 rfl hj (by omega) (H1.o.take hj) ht (hv.trans H2.o) H3.o
end Go.Proofs.YtfagcpcikjlboaaGreatDoor
