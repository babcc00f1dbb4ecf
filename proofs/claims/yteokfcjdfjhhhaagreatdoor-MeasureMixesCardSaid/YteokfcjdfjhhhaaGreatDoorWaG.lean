/- Parts. -/
import Derived.Test.YteokfcjdfjhhhaaGreatDoorPosG
import Derived.Test.YteokfcjdfjhhhaaGreatDoorShelf
import Derived.Shelf.Spec.BitsCarry
set_option linter.all false
set_option maxRecDepth 100000
set_option maxHeartbeats 8000000
namespace Go.Proofs.YteokfcjdfjhhhaaGreatDoor
open Go Go.RowKit

theorem jhn (ds:List Nat) (k:Nat) (hk:k+1≤ds.length) (h0:dg ds k=0):Pos.nv B64 (ds.take (k+1))=Pos.nv B64 (ds.take k):=by
 rw [gd (by omega)] at h0;rw [Pos.nv_take_succ (by omega),h0];omega
theorem jeM (ds:List Nat) (k:Nat) (hk:k+1≤ds.length) (h0:dg ds k≠0):Pos.Trim (ds.take (k+1)):=by
 rw [gd (by omega)] at h0;rw [List.take_succ_eq_append_getElem (by omega)];exact Pos.trim_snoc h0

def jjm (A:Option Addr) (n c:Nat) (ds:List Nat) (w:World) (e:Ending) (w':World):Prop:=
 ∃k,k≤n∧Pos.Trim (ds.take k)∧Pos.nv B64 (ds.take k)=Pos.nv B64 ds∧e= .returned (.slice A k c)∧w=w'

theorem jjo {A:Option Addr} {n c k:Nat} {ds:List Nat} {w:World} {v:Value} (h1:k≤n) (h2:Pos.Trim (ds.take k)) (h3:Pos.nv B64 (ds.take k)=Pos.nv B64 ds) (h4:v= .slice A k c):
  jjm A n c ds w (.returned v) w:=⟨k,h1,h2,h3,by rw [h4],rfl⟩

theorem jbs (A:Option Addr) (n c:Nat) (ds:List Nat) (w:World) (h:Wd w A n ds) (hn:n≤c) (hc:c < 1099511627776):
  Calls Tryz.prog 170 #[.slice A n c] w (jjm A n c ds w):=by
 have HD:=qh h;clear h;go_enter Tryz.func170,Tryz.ntmps170;go_wp2
 go_loop [3] (fun i=>∃k:Nat,k≤n∧i= .int .i64 k∧Hid (Pos.nv B64 (ds.take k)=Pos.nv B64 ds)) (fun i=>(intOf i).toNat)
 case atStart=>exact ⟨n,Nat.le_refl _,rfl,by have:=HD.out.len;show _=_;rw [←this,List.take_length]⟩
 case round=>
  obtain ⟨k,hk,rfl,HV⟩:=hrel;cases k with
  | zero=>
    go_wp2;go_ret;exact jjo (Nat.zero_le _) (by rw [List.take_zero];exact Pos.Trim.nil) HV.out (by simp)
  | succ k=>
    obtain ⟨b,o,rfl,hlt,hcell⟩:=HD.out.at_ (by omega);have hl:=HD.out.len;have hcl:=hcell k (by omega);have HL:=qh hl;clear hcell hl;by_cases h0:dg ds k=0
    ·have hcl':w.cell? ⟨b,o+k,none⟩=some (.int .u64 0):=by rw [hcl,h0];rfl
     have H0:=qh h0;clear hcl h0;go_wp2
     go_round
     case rel=>exact ⟨k,by omega,by go_num,by show _=_;rw [←HV.out,jhn ds k (by have:=HL.out;omega) H0.out]⟩
     case measure=>simp [intOf]
    ·have hb:(((dg ds k:Nat):Int)==0)=false:=by rw [beq_eq_false_iff_ne];omega
     have H0:=qh h0;clear h0;go_wp2;go_ret;exact jjo hk (jeM ds k (by have:=HL.out;omega) H0.out) HV.out (by simp)

abbrev jgI (x y:Nat) (w:World) (e:Ending) (w':World):Prop:=e= .returned (.int .i64 (sgn ((x:Int) - (y:Int))))∧Below w.heap.size w w'
theorem jbP {x y:Nat} {w w':World} {v:Value} {z:Int} (h1:v= .int .i64 z) (h2:z=sgn ((x:Int) - (y:Int))) (h3:Below w.heap.size w w'):jgI x y w (.returned v) w':=⟨by rw [h1,h2],h3⟩
theorem jhv {x y:Nat} (h:x < y): -1=sgn ((x:Int) - (y:Int)):=by unfold sgn;rw [if_pos (by omega)]
theorem jhk {x y:Nat} (h:y < x):1=sgn ((x:Int) - (y:Int)):=by unfold sgn;rw [if_neg (by omega),if_pos (by omega)]
theorem jm2 {x y:Nat} (h:x=y):0=sgn ((x:Int) - (y:Int)):=by unfold sgn;rw [if_neg (by omega),if_neg (by omega)]
theorem jmb {ds es:List Nat} {k:Nat} (hk:k < ds.length) (hl:ds.length=es.length) (h:ds.drop (k+1)=es.drop (k+1)) (e:dg ds k=dg es k):ds.drop k=es.drop k:=by
 have hk':k < es.length:=by omega
 rw [gd hk,gd hk'] at e;rw [List.drop_eq_getElem_cons hk,List.drop_eq_getElem_cons hk',h,e]

theorem jc6 (A A':Option Addr) (n n' c c':Nat) (ds es:List Nat) (w:World) (h:Wd w A n ds) (h':Wd w A' n' es) (t:Pos.Trim ds) (t':Pos.Trim es):
  Calls Tryz.prog 128 #[.slice A n c, .slice A' n' c'] w (jgI (Pos.nv B64 ds) (Pos.nv B64 es) w):=by
 have HD:=qh h;have HE:=qh h';have hn:=h.big;have hn':=h'.big;clear h h';rcases Nat.lt_trichotomy n n' with hlt|heq|hlt
 ·have b1:((n:Int) != (n':Int))=true:=by rw [bne_iff_ne];omega
  go_enter Tryz.func128,Tryz.ntmps128;go_wp2;go_ret;exact jbP rfl (jhv (Pos.nv_lt_of_len ja9 HD.out.dig t' (by have:=HD.out.len;have:=HE.out.len;omega))) bi
 ·subst heq;go_enter Tryz.func128,Tryz.ntmps128;go_wp2
  go_loopw [5] (fun i wr=>∃k m:Nat,k≤n∧i= .int .i64 ((k:Int) - 1)∧wr=w.drewN m∧Hid (ds.drop k=es.drop k)) (fun i _=>(intOf i+1).toNat)
  case atStart=>
   refine ⟨n,0,Nat.le_refl _,rfl,rfl, ?_⟩;show _=_
   rw [List.drop_of_length_le (by have:=HD.out.len;omega),List.drop_of_length_le (by have:=HE.out.len;omega)]
  case round=>
   obtain ⟨k,m,hk,rfl,rfl,HV⟩:=hrel;cases k with
   | zero=>
     go_wp2;go_ret;refine jbP (z:=0) (by simp) (jm2 ?_) bi;have:=HV.out;simp only [List.drop_zero] at this;rw [this]
   | succ k=>
     obtain ⟨b,o,rfl,hlt,hcell⟩:=HD.out.at_ (by omega);obtain ⟨b',o',rfl,hlt',hcell'⟩:=HE.out.at_ (by omega);have hcl:=hcell k (by omega);have hcl':=hcell' k (by omega);clear hcell hcell';have u1:=jac HD.out.dig k;have u2:=jac HE.out.dig k;have hk0:(0:Int)≤(k:Int):=by omega
     have hk1:(k:Int) < (n:Int):=by omega
     rcases Nat.lt_trichotomy (dg ds k) (dg es k) with hx|hx|hx
     ·have b1:(((dg ds k:Nat):Int) != ((dg es k:Nat):Int))=true:=by rw [bne_iff_ne];omega
      go_wp2
      go_quiet (fail)
      go_wp2
      go_quiet (fail)
      go_wp2;go_ret;refine jbP (z:= -1) (by simp) (jhv ?_) bi;refine Pos.nv_lt_of_top HD.out.dig (by have:=HD.out.len;have:=HE.out.len;omega) k (by have:=HD.out.len;omega) HV.out ?_;rw [←gd,←gd];exact hx
     ·have b1:(((dg ds k:Nat):Int) != ((dg es k:Nat):Int))=false:=by rw [bne_eq_false_iff_eq];omega
      have HX:=qh hx;clear hx;go_wp2
      go_quiet (fail)
      go_wp2
      go_roundw
      case rel=>exact ⟨k,_,by omega,by go_num,rfl,jmb (by have:=HD.out.len;omega) (by have:=HD.out.len;have:=HE.out.len;omega) HV.out HX.out⟩
      case measure=>simp [intOf]
     ·have b1:(((dg ds k:Nat):Int) != ((dg es k:Nat):Int))=true:=by rw [bne_iff_ne];omega
      go_wp2
      go_quiet (fail)
      go_wp2
      go_quiet (fail)
      go_wp2;go_ret;refine jbP (z:=1) (by simp) (jhk ?_) bi;refine Pos.nv_lt_of_top HE.out.dig (by have:=HD.out.len;have:=HE.out.len;omega) k (by have:=HE.out.len;omega) HV.out.symm ?_;rw [←gd,←gd];exact hx
 ·have b1:((n:Int) != (n':Int))=true:=by rw [bne_iff_ne];omega
  have b2:¬(n:Int) < (n':Int):=by omega
  go_enter Tryz.func128,Tryz.ntmps128;go_wp2;go_ret;exact jbP rfl (jhk (Pos.nv_lt_of_len ja9 HE.out.dig t (by have:=HD.out.len;have:=HE.out.len;omega))) bi

theorem jbZ (x y c:Nat) (hc:c≤1) (w:World):
  (callFunc 169 #[.int .u64 x, .int .u64 y, .int .u64 c]).run Tryz.prog w=
    .ok (.value (.tuple #[.int .u64 (((x+y+c) % B64:Nat):Int), .int .u64 (((x+y+c) / B64:Nat):Int)])) w:=by
 rw [run_callFunc_extern Tryz.func169 (by kernel_rfl) (by kernel_rfl) (by kernel_rfl) (e:=add64Entry) (by kernel_rfl),run_add64 x y c (by omega) (by omega) (by omega) (by omega)];simp only [Result.andThen,ja7]
 congr 5 <;> omega
theorem jdJ (x y b:Nat) (hb:b≤1) (w:World):
  (callFunc 171 #[.int .u64 x, .int .u64 y, .int .u64 b]).run Tryz.prog w=
    .ok (.value (.tuple #[.int .u64 (((x+B64 - y - b) % B64:Nat):Int), .int .u64 ((if x < y+b then 1 else 0:Nat):Int)])) w:=by
 rw [run_callFunc_extern Tryz.func171 (by kernel_rfl) (by kernel_rfl) (by kernel_rfl) (e:=sub64Entry) (by kernel_rfl),run_sub64 x y b hb];rfl

theorem jeQ (x c:Nat) (hc:c≤1) (w:World):
  (callFunc 169 #[.int .u64 x, .int .u64 0, .int .u64 c]).run Tryz.prog w=
    .ok (.value (.tuple #[.int .u64 (((x+0+c) % B64:Nat):Int), .int .u64 (((x+0+c) / B64:Nat):Int)])) w:=jbZ x 0 c hc w
theorem ji9 (x b:Nat) (hb:b≤1) (w:World):
  (callFunc 171 #[.int .u64 x, .int .u64 0, .int .u64 b]).run Tryz.prog w=
    .ok (.value (.tuple #[.int .u64 (((x+B64 - 0 - b) % B64:Nat):Int), .int .u64 ((if x < 0+b then 1 else 0:Nat):Int)])) w:=jdJ x 0 b hb w

theorem jbT {l:List Nat} {k:Nat} (h:l.length≤k):dg l k=0:=by simp [dg,List.getD_eq_getElem?_getD,h]
theorem jaO (l:List Nat) (k:Nat):Pos.nv B64 (l.take (k+1))=Pos.nv B64 (l.take k)+B64^k*dg l k:=by
 rcases Nat.lt_or_ge k l.length with h|h
 ·rw [Pos.nv_take_succ h,gd h]
 ·rw [jbT h,List.take_of_length_le (by omega),List.take_of_length_le h];omega

structure AddInv (w wr:World) (g m k c:Nat) (xs ys zs:List Nat):Prop where
 len:zs.length=k
 dig:Pos.Dig B64 zs
 car:c≤1
 blk:Blk wr g 165 (jfA zs m)
 bel:Below w.heap.size w wr
 own:w.heap.size≤g
 val:Pos.nv B64 zs+B64^k*c=Pos.nv B64 (xs.take k)+Pos.nv B64 (ys.take k)

theorem jex {x y c:Nat} (hx:x < B64) (hy:y < B64) (hc:c≤1):(x+y+c) / B64≤1:=by
 have:(x+y+c) / B64 < 2:=(Nat.div_lt_iff_lt_mul ja9).2 (by omega);omega
theorem jqx {p x y c o X Y b:Nat} (h:o+p*c=X+Y):o+p*((x+y+c) % b)+p*b*((x+y+c) / b)=X+p*x+(Y+p*y):=by
 have h1:p*((x+y+c) % b)+p*b*((x+y+c) / b)=p*(x+y+c):=by
  rw [Nat.mul_assoc,←Nat.mul_add,Nat.mod_add_div]
 rw [Nat.mul_add,Nat.mul_add] at h1;omega
theorem AddInv.step {w wr:World} {g m k c:Nat} {xs ys zs:List Nat} (h:AddInv w wr g m k c xs ys zs) (hx:Pos.Dig B64 xs) (hy:Pos.Dig B64 ys) (hk:k < m):
  AddInv w (wr.setCell ⟨g,k,none⟩ (.int .u64 (((dg xs k+dg ys k+c) % B64:Nat):Int))) g m (k+1) ((dg xs k+dg ys k+c) / B64) xs ys (zs++[(dg xs k+dg ys k+c) % B64]) where
 len:=by simp [h.len]
 dig:=h.dig.snoc (Nat.mod_lt _ ja9)
 car:=jex (jac hx k) (jac hy k) h.car
 blk:=by
  have h1:=h.blk.set_ k (.int .u64 (((dg xs k+dg ys k+c) % B64:Nat):Int));have h2:=jgC zs m ((dg xs k+dg ys k+c) % B64) (by rw [h.len];exact hk);rw [h.len] at h2;rw [h2] at h1;exact h1
 bel:=h.bel.setCell h.own _
 own:=h.own
 val:=by rw [Pos.nv_snoc,h.len,jaO,jaO,Nat.pow_succ];exact jqx h.val
theorem AddInv.place {w wr:World} {g m k c:Nat} {xs ys zs:List Nat} (h:AddInv w wr g m k c xs ys zs) (hk:k < m):
  wr.cell? ⟨g,k,none⟩=some (.int .u64 0)∧wr.frozen? ⟨g,k,none⟩=false:=by
 refine ⟨?_,h.blk.frozen k⟩;rw [h.blk.cell,jel (by rw [h.len];omega) hk]

def jdK (x:Nat) (w:World) (e:Ending) (w':World):Prop:=
 ∃A n c ds,e= .returned (.slice A n c)∧n≤c∧c < 1099511627776∧Wd w' A n ds∧Pos.Trim ds∧Pos.nv B64 ds=x∧Below w.heap.size w w'


theorem AddInv.start (w:World) (m:Nat) (xs ys:List Nat):AddInv w (w.alloc (.cells (jfA [] m) 165)) w.heap.size m 0 0 xs ys [] where
 len:=rfl
 dig:=Pos.Dig.nil
 car:=by omega
 blk:=Blk.new _ _ _
 bel:=(Below.refl _ _).alloc (Nat.le_refl _) _
 own:=Nat.le_refl _
 val:=by simp [Pos.nv]
theorem AddInv.stop {w wr:World} {g n c:Nat} {xs ys zs:List Nat} (h:AddInv w wr g (n+1) n c xs ys zs) (hx:xs.length≤n) (hy:ys.length≤n) (hn:n < 549755813888):
  Wd (wr.setCell ⟨g,n,none⟩ (.int .u64 (c:Int))) (some ⟨g,0,none⟩) (n+1) (zs++[c])∧Pos.nv B64 (zs++[c])=Pos.nv B64 xs+Pos.nv B64 ys∧Below w.heap.size w (wr.setCell ⟨g,n,none⟩ (.int .u64 (c:Int))):=by
 have hc:=h.car;have hl:=h.len;refine ⟨Wd.of_blk (h.blk.set_ n _) ?_ (by simp [hl]) (by omega) (h.dig.snoc (by rw [ja7];omega)), ?_,h.bel.setCell h.own _⟩
 ·have h2:=jgC zs (n+1) c (by omega);rw [hl] at h2;rw [h2,←hl,show zs.length+1=(zs++[c]).length by simp,jhl]
 ·have:=h.val;rw [List.take_of_length_le hx,List.take_of_length_le hy] at this;rw [Pos.nv_snoc,hl,this]

theorem jg3 {A:Option Addr} {n c x:Nat} {ds:List Nat} {w w':World} {v:Value} (hv:v= .slice A n c) (h1:n≤c) (h2:c < 1099511627776) (h3:Wd w' A n ds) (h4:Pos.Trim ds) (h5:Pos.nv B64 ds=x) (h6:Below w.heap.size w w'):
  jdK x w (.returned v) w':=⟨A,n,c,ds,by rw [hv],h1,h2,h3,h4,h5,h6⟩


theorem jhX (A A':Option Addr) (n n' c c':Nat) (ds es:List Nat) (w:World) (h:Wd w A n ds) (h':Wd w A' n' es) (hn:n < 549755813888) (hn':n' < 549755813888):
  Calls Tryz.prog 127 #[.slice A n c, .slice A' n' c'] w (jdK (Pos.nv B64 ds+Pos.nv B64 es) w):=by
 have HD:=qh h;have HE:=qh h';clear h h';by_cases hle:n'≤n
 ·have b1:¬(n:Int) < (n':Int):=by omega
  have hmk:=fun W=>jbJ (n+1) (by omega) W
  simp only [Int.natCast_add,Int.natCast_one] at hmk;go_enter Tryz.func127,Tryz.ntmps127;go_wp2
  go_loopw [6,22] (fun cr i wr=>∃(k c:Nat) (zs:List Nat),k≤n∧i= .int .i64 k∧cr= .int .u64 c∧AddInv w wr w.heap.size (n+1) k c ds es zs) (fun _ i _=>n - (intOf i).toNat)
  case atStart=>exact ⟨0,0,[],Nat.zero_le _,rfl,rfl,AddInv.start _ _ _ _⟩
  case round=>
   obtain ⟨k,c,zs,hk,rfl,rfl,hI⟩:=hrel;by_cases hlt:k < n
   ·have hstep:=hI.step HD.out.dig HE.out.dig (by omega);obtain ⟨pl1,pl2⟩:=hI.place (by omega);obtain ⟨b,o,rfl,hb,hcell⟩:=(HD.out.below hI.bel).at_ (by omega);have hcl:=hcell k hlt;have hz:=HD.out.len;have hz':=HE.out.len;have hk0:(0:Int)≤(k:Int):=by omega
    have hk1:(k:Int) < (n:Int):=by omega
    have hk2:(k:Int) < (n:Int)+1:=by omega
    have ha:=jbZ (dg ds k) (dg es k) c hI.car;have ha0:=jeQ (dg ds k) c hI.car;by_cases hlt':k < n'
    ·obtain ⟨b',o',rfl,hb',hcell'⟩:=(HE.out.below hI.bel).at_ (by omega);have hcl':=hcell' k hlt';have hk3:(k:Int) < (n':Int):=by omega
     clear hcell hcell' ha0;have HI:=qh hI;have HS:=qh hstep;have HZ:=qh hz;have HZ':=qh hz';clear hI hstep hz hz';go_wp2
     go_roundw
     case rel=>exact ⟨k+1,_,_,by omega,by go_num,rfl,HS.out⟩
     case measure=>simp [intOf];omega
    ·have hk3:¬(k:Int) < (n':Int):=by omega
     have hd:dg es k=0:=jbT (by omega);rw [hd] at hstep;clear hcell ha hd;have HI:=qh hI;have HS:=qh hstep;have HZ:=qh hz;have HZ':=qh hz';clear hI hstep hz hz';go_wp2
     go_roundw
     case rel=>exact ⟨k+1,_,_,by omega,by go_num,rfl,HS.out⟩
     case measure=>simp [intOf];omega
   ·have e:k=n:=by omega
    subst e;obtain ⟨pl1,pl2⟩:=hI.place (by omega);obtain ⟨st1,st2,st3⟩:=hI.stop (by have:=HD.out.len;omega) (by have:=HE.out.len;omega) hn;have hk2:(k:Int) < (k:Int)+1:=by omega
    have HI:=qh hI;have H1:=qh st1;have H2:=qh st2;have H3:=qh st3;clear hI st1 st2 st3;go_wp2_with (go_at_call 170;((with_reducible refine (jbs _ _ _ _ _ H1.out (Nat.le_refl _) (by omega)).mono ?_);rintro e w1 ⟨j,hj,ht,hv,rfl,rfl⟩))
    go_ret;refine jg3 rfl hj (by omega) (H1.out.take hj) ht (hv.trans ?_) H3.out;have:=H2.out;omega
 ·have b1:(n:Int) < (n':Int):=by omega
  have hmk:=fun W=>jbJ (n'+1) (by omega) W
  simp only [Int.natCast_add,Int.natCast_one] at hmk;have hn0:=hn;clear hn;have hn:=hn';go_enter Tryz.func127,Tryz.ntmps127;go_wp2
  go_loopw [6,22] (fun cr i wr=>∃(k c:Nat) (zs:List Nat),k≤n'∧i= .int .i64 k∧cr= .int .u64 c∧AddInv w wr w.heap.size (n'+1) k c es ds zs) (fun _ i _=>n' - (intOf i).toNat)
  case atStart=>exact ⟨0,0,[],Nat.zero_le _,rfl,rfl,AddInv.start _ _ _ _⟩
  case round=>
   obtain ⟨k,c,zs,hk,rfl,rfl,hI⟩:=hrel;by_cases hlt:k < n'
   ·have hstep:=hI.step HE.out.dig HD.out.dig (by omega);obtain ⟨pl1,pl2⟩:=hI.place (by omega);obtain ⟨b,o,rfl,hb,hcell⟩:=(HE.out.below hI.bel).at_ (by omega);have hcl:=hcell k hlt;have hz:=HE.out.len;have hz':=HD.out.len;have hk0:(0:Int)≤(k:Int):=by omega
    have hk1:(k:Int) < (n':Int):=by omega
    have hk2:(k:Int) < (n':Int)+1:=by omega
    have ha:=jbZ (dg es k) (dg ds k) c hI.car;have ha0:=jeQ (dg es k) c hI.car;by_cases hlt':k < n
    ·obtain ⟨b',o',rfl,hb',hcell'⟩:=(HD.out.below hI.bel).at_ (by omega);have hcl':=hcell' k hlt';have hk3:(k:Int) < (n:Int):=by omega
     clear hcell hcell' ha0;have HI:=qh hI;have HS:=qh hstep;have HZ:=qh hz;have HZ':=qh hz';clear hI hstep hz hz';go_wp2
     go_roundw
     case rel=>exact ⟨k+1,_,_,by omega,by go_num,rfl,HS.out⟩
     case measure=>simp [intOf];omega
    ·have hk3:¬(k:Int) < (n:Int):=by omega
     have hd:dg ds k=0:=jbT (by omega);rw [hd] at hstep;clear hcell ha hd;have HI:=qh hI;have HS:=qh hstep;have HZ:=qh hz;have HZ':=qh hz';clear hI hstep hz hz';go_wp2
     go_roundw
     case rel=>exact ⟨k+1,_,_,by omega,by go_num,rfl,HS.out⟩
     case measure=>simp [intOf];omega
   ·have e:k=n':=by omega
    subst e;obtain ⟨pl1,pl2⟩:=hI.place (by omega);obtain ⟨st1,st2,st3⟩:=hI.stop (by have:=HE.out.len;omega) (by have:=HD.out.len;omega) hn;have hk2:(k:Int) < (k:Int)+1:=by omega
    have HI:=qh hI;have H1:=qh st1;have H2:=qh st2;have H3:=qh st3;clear hI st1 st2 st3;go_wp2_with (go_at_call 170;((with_reducible refine (jbs _ _ _ _ _ H1.out (Nat.le_refl _) (by omega)).mono ?_);rintro e w1 ⟨j,hj,ht,hv,rfl,rfl⟩))
    go_ret;refine jg3 rfl hj (by omega) (H1.out.take hj) ht (hv.trans ?_) H3.out;have:=H2.out;omega

structure SubInv (w wr:World) (g m k c:Nat) (xs ys zs:List Nat):Prop where
 len:zs.length=k
 dig:Pos.Dig B64 zs
 car:c≤1
 blk:Blk wr g 165 (jfA zs m)
 bel:Below w.heap.size w wr
 own:w.heap.size≤g
 val:Pos.nv B64 zs+Pos.nv B64 (ys.take k)=Pos.nv B64 (xs.take k)+B64^k*c

theorem jcC {x y c b:Nat} (hx:x < b) (hy:y < b) (hc:c≤1):(x+b - y - c) % b+(y+c)=x+b*(if x < y+c then 1 else 0):=by
 by_cases h:x < y+c
 ·rw [if_pos h,Nat.mod_eq_of_lt (by omega)];omega
 ·rw [if_neg h,show x+b - y - c=(x - (y+c))+b by omega,Nat.add_mod_right,Nat.mod_eq_of_lt (by omega)];omega
theorem jpR {p x y c o X Y b d e:Nat} (h:o+Y=X+p*c) (hd:d+(y+c)=x+b*e):o+p*d+(Y+p*y)=X+p*x+p*b*e:=by
 have h1:=congrArg (p* ·) hd;simp only [Nat.mul_add] at h1;rw [Nat.mul_assoc];omega
theorem SubInv.step {w wr:World} {g m k c:Nat} {xs ys zs:List Nat} (h:SubInv w wr g m k c xs ys zs) (hx:Pos.Dig B64 xs) (hy:Pos.Dig B64 ys) (hk:k < m):
  SubInv w (wr.setCell ⟨g,k,none⟩ (.int .u64 (((dg xs k+B64 - dg ys k - c) % B64:Nat):Int))) g m (k+1) (if dg xs k < dg ys k+c then 1 else 0) xs ys (zs++[(dg xs k+B64 - dg ys k - c) % B64]) where
 len:=by simp [h.len]
 dig:=h.dig.snoc (Nat.mod_lt _ ja9)
 car:=by split <;> omega
 blk:=by
  have h1:=h.blk.set_ k (.int .u64 (((dg xs k+B64 - dg ys k - c) % B64:Nat):Int));have h2:=jgC zs m ((dg xs k+B64 - dg ys k - c) % B64) (by rw [h.len];exact hk);rw [h.len] at h2;rw [h2] at h1;exact h1
 bel:=h.bel.setCell h.own _
 own:=h.own
 val:=by
  rw [Pos.nv_snoc,h.len,jaO,jaO,Nat.pow_succ];exact jpR h.val (jcC (jac hx k) (jac hy k) h.car)
theorem SubInv.place {w wr:World} {g m k c:Nat} {xs ys zs:List Nat} (h:SubInv w wr g m k c xs ys zs) (hk:k < m):
  wr.cell? ⟨g,k,none⟩=some (.int .u64 0)∧wr.frozen? ⟨g,k,none⟩=false:=by
 refine ⟨?_,h.blk.frozen k⟩;rw [h.blk.cell,jel (by rw [h.len];omega) hk]
theorem SubInv.start (w:World) (m:Nat) (xs ys:List Nat):SubInv w (w.alloc (.cells (jfA [] m) 165)) w.heap.size m 0 0 xs ys [] where
 len:=rfl
 dig:=Pos.Dig.nil
 car:=by omega
 blk:=Blk.new _ _ _
 bel:=(Below.refl _ _).alloc (Nat.le_refl _) _
 own:=Nat.le_refl _
 val:=by simp [Pos.nv]
theorem SubInv.stop {w wr:World} {g n c:Nat} {xs ys zs:List Nat} (h:SubInv w wr g n n c xs ys zs) (hx:xs.length≤n) (hy:ys.length≤n) (hn:n < 549755813888) (hle:Pos.nv B64 ys≤Pos.nv B64 xs):
  Wd wr (some ⟨g,0,none⟩) n zs∧Pos.nv B64 zs=Pos.nv B64 xs - Pos.nv B64 ys:=by
 have hl:=h.len;refine ⟨Wd.of_blk h.blk (by rw [←hl,jhl]) hl (by omega) h.dig, ?_⟩;have hv:=h.val;rw [List.take_of_length_le hx,List.take_of_length_le hy] at hv;have hlt:=Pos.nv_lt h.dig;rw [hl] at hlt;have hc:=h.car
 have h0:c=0:=by
  rcases Nat.eq_zero_or_pos c with h0|h0
  ·exact h0
  ·have:c=1:=by omega
   subst this;omega
 subst h0;omega

theorem je3 {xs ys:List Nat} (hx:Pos.Dig B64 xs) (ty:Pos.Trim ys) (hle:Pos.nv B64 ys≤Pos.nv B64 xs):ys.length≤xs.length:=by
 rcases Nat.lt_or_ge xs.length ys.length with h|h
 ·have:=Pos.nv_lt_of_len ja9 hx ty h;omega
 ·exact h

theorem jhU (A A':Option Addr) (n n' c c':Nat) (ds es:List Nat) (w:World) (h:Wd w A n ds) (h':Wd w A' n' es) (hn:n < 549755813888) (te:Pos.Trim es) (hle:Pos.nv B64 es≤Pos.nv B64 ds):
  Calls Tryz.prog 129 #[.slice A n c, .slice A' n' c'] w (jdK (Pos.nv B64 ds - Pos.nv B64 es) w):=by
 have hll:=je3 h.dig te hle;rw [h.len,h'.len] at hll;have HD:=qh h;have HE:=qh h';clear h h';have hmk:=fun W=>jbJ n (by omega) W
 go_enter Tryz.func129,Tryz.ntmps129;go_wp2
 go_loopw [6,14] (fun cr i wr=>∃(k c:Nat) (zs:List Nat),k≤n∧i= .int .i64 k∧cr= .int .u64 c∧SubInv w wr w.heap.size n k c ds es zs) (fun _ i _=>n - (intOf i).toNat)
 case atStart=>exact ⟨0,0,[],Nat.zero_le _,rfl,rfl,SubInv.start _ _ _ _⟩
 case round=>
  obtain ⟨k,c,zs,hk,rfl,rfl,hI⟩:=hrel;by_cases hlt:k < n
  ·have hstep:=hI.step HD.out.dig HE.out.dig (by omega);obtain ⟨pl1,pl2⟩:=hI.place (by omega);obtain ⟨b,o,rfl,hb,hcell⟩:=(HD.out.below hI.bel).at_ (by omega);have hcl:=hcell k hlt;have hz:=HD.out.len;have hz':=HE.out.len;have hk0:(0:Int)≤(k:Int):=by omega
   have hk1:(k:Int) < (n:Int):=by omega
   have ha:=jdJ (dg ds k) (dg es k) c hI.car;have ha0:=ji9 (dg ds k) c hI.car;by_cases hlt':k < n'
   ·obtain ⟨b',o',rfl,hb',hcell'⟩:=(HE.out.below hI.bel).at_ (by omega);have hcl':=hcell' k hlt';have hk3:(k:Int) < (n':Int):=by omega
    clear hcell hcell' ha0;have HI:=qh hI;have HS:=qh hstep;have HZ:=qh hz;have HZ':=qh hz';clear hI hstep hz hz';generalize (if dg ds k < dg es k+c then 1 else 0:Nat)=c2 at ha HS;go_wp2
    go_roundw
    case rel=>exact ⟨k+1,_,_,by omega,by go_num,rfl,HS.out⟩
    case measure=>simp [intOf];omega
   ·have hk3:¬(k:Int) < (n':Int):=by omega
    have hd:dg es k=0:=jbT (by omega);rw [hd] at hstep;clear hcell ha hd;have HI:=qh hI;have HS:=qh hstep;have HZ:=qh hz;have HZ':=qh hz';clear hI hstep hz hz';generalize (if dg ds k < 0+c then 1 else 0:Nat)=c2 at ha0 HS;go_wp2
    go_roundw
    case rel=>exact ⟨k+1,_,_,by omega,by go_num,rfl,HS.out⟩
    case measure=>simp [intOf];omega
  ·have e:k=n:=by omega
   subst e;obtain ⟨st1,st2⟩:=hI.stop (by have:=HD.out.len;omega) (by have:=HE.out.len;omega) hn hle;have st3:=hI.bel;have HI:=qh hI;have H1:=qh st1;have H2:=qh st2;have H3:=qh st3;clear hI st1 st2 st3;go_wp2_with (go_at_call 170;((with_reducible refine (jbs _ _ _ _ _ H1.out (Nat.le_refl _) (by omega)).mono ?_);rintro e w1 ⟨j,hj,ht,hv,rfl,rfl⟩))
   go_ret;exact jg3 rfl hj (by omega) (H1.out.take hj) ht (hv.trans H2.out) H3.out

theorem jbW {l:List Nat} {j:Nat} (hj:j < l.length) (d:Nat):Pos.nv B64 (l.set j d)+B64^j*dg l j=Pos.nv B64 l+B64^j*d:=by
 rw [gd hj];exact Pos.nv_set hj
def ji5 (l:List Nat):Array Value:=(l.map fun d:Nat=>Value.int .u64 (d:Int)).toArray
theorem jcR (l:List Nat) (j d:Nat):(ji5 l).setIfInBounds j (.int .u64 (d:Int))=ji5 (l.set j d):=by
 unfold ji5;rw [List.setIfInBounds_toArray,List.map_set]
theorem jgx {l:List Nat} {j:Nat} (h:j < l.length):(ji5 l)[j]? =some (.int .u64 ((dg l j:Nat):Int)):=by
 simp [ji5,h,dg]
theorem jco (m:Nat):jfA [] m=ji5 (List.replicate m 0):=by simp [jfA,ji5]

structure MulInv (w wr:World) (g m:Nat) (zs:List Nat):Prop where
 len:zs.length=m
 dig:Pos.Dig B64 zs
 blk:Blk wr g 165 (ji5 zs)
 bel:Below w.heap.size w wr
 own:w.heap.size≤g
theorem MulInv.put {w wr:World} {g m:Nat} {zs:List Nat} (h:MulInv w wr g m zs) (j d:Nat) (hd:d < B64):MulInv w (wr.setCell ⟨g,j,none⟩ (.int .u64 (d:Int))) g m (zs.set j d) where
 len:=by rw [List.length_set,h.len]
 dig:=h.dig.set j hd
 blk:=by have:=h.blk.set_ j (.int .u64 (d:Int));rw [jcR] at this;exact this
 bel:=h.bel.setCell h.own _
 own:=h.own
theorem MulInv.place {w wr:World} {g m j:Nat} {zs:List Nat} (h:MulInv w wr g m zs) (hj:j < m):
  wr.cell? ⟨g,j,none⟩=some (.int .u64 ((dg zs j:Nat):Int))∧wr.frozen? ⟨g,j,none⟩=false:=by
 refine ⟨?_,h.blk.frozen j⟩;rw [h.blk.cell,jgx (by rw [h.len];exact hj)]

theorem jjD {b x y z c:Nat} (hx:x < b) (hy:y < b) (hz:z < b) (hc:c < b):
  ((x*y % b+z) % b+c) % b+b*(x*y / b+(x*y % b+z) / b+((x*y % b+z) % b+c) / b)=x*y+z+c∧
    x*y / b+(x*y % b+z) / b+((x*y % b+z) % b+c) / b < b:=by
 have h1:=Nat.mod_add_div (x*y) b;have h2:=Nat.mod_add_div (x*y % b+z) b;have h3:=Nat.mod_add_div ((x*y % b+z) % b+c) b
 have e:((x*y % b+z) % b+c) % b+b*(x*y / b+(x*y % b+z) / b+((x*y % b+z) % b+c) / b)=x*y+z+c:=by
  rw [Nat.mul_add,Nat.mul_add];omega
 refine ⟨e, ?_⟩;obtain ⟨k,rfl⟩:∃k,b=k+1:=⟨b - 1,by omega⟩;have h4:x*y≤k*k:=Nat.mul_le_mul (by omega) (by omega);generalize x*y / (k+1)+(x*y % (k+1)+z) / (k+1)+((x*y % (k+1)+z) % (k+1)+c) / (k+1)=q at e ⊢;have h5:(k+1)*q≤k*k+k+k:=by omega
 have h6:k*k+k+k < (k+1)*(k+1):=by rw [Nat.add_mul,Nat.mul_add];omega
 exact Nat.lt_of_mul_lt_mul_left (Nat.lt_of_le_of_lt h5 h6)

theorem jk0 (x y:Nat) (hx:x < B64) (hy:y < B64) (w:World):
  Calls Tryz.prog 130 #[.int .u64 x, .int .u64 y] w fun e w'=>e= .returned (.tuple #[.int .u64 ((x*y / B64:Nat):Int), .int .u64 ((x*y % B64:Nat):Int)])∧w'=w:=
 Tryz.bits_Mul64 x y hx hy w

theorem jax (x y h l:Nat) (hx:x < B64) (hy:y < B64) (eh:h=x*y / B64) (el:l=x*y % B64) (w:World):
  Calls Tryz.prog 130 #[.int .u64 x, .int .u64 y] w fun e w'=>e= .returned (.tuple #[.int .u64 (h:Int), .int .u64 (l:Int)])∧w'=w:=by
 subst eh;subst el;exact jk0 x y hx hy w
theorem jby (x c d e:Nat) (hd:d=(x+c) % B64) (he:e=(x+c) / B64) (w:World):
  (callFunc 169 #[.int .u64 x, .int .u64 c, .int .u64 0]).run Tryz.prog w= .ok (.value (.tuple #[.int .u64 (d:Int), .int .u64 (e:Int)])) w:=by
 subst hd;subst he;exact jbZ x c 0 (by omega) w
structure MulIn (w wr:World) (g i j c:Nat) (xs ys zs:List Nat):Prop where
 inv:MulInv w wr g (xs.length+ys.length) zs
 car:c < B64
 far:∀p,i+ys.length≤p→dg zs p=0
 val:Pos.nv B64 zs+B64^(i+j)*c=Pos.nv B64 (xs.take i)*Pos.nv B64 ys+B64^i*dg xs i*Pos.nv B64 (ys.take j)

theorem jam {l:List Nat} {p q d:Nat} (h:p≠q):dg (l.set p d) q=dg l q:=by
 simp [dg,List.getD_eq_getElem?_getD,List.getElem?_set,h]

theorem MulIn.step {w wr:World} {g i j c:Nat} {xs ys zs:List Nat} (h:MulIn w wr g i j c xs ys zs) (hi:i < xs.length) (hj:j < ys.length) {d e:Nat} (hd:d < B64) (he:e < B64)
  (hde:d+B64*e=dg xs i*dg ys j+dg zs (i+j)+c):
  MulIn w (wr.setCell ⟨g,i+j,none⟩ (.int .u64 (d:Int))) g i (j+1) e xs ys (zs.set (i+j) d) where
 inv:=h.inv.put _ _ hd
 car:=he
 far:=fun p hp=>by rw [jam (by omega)];exact h.far p hp
 val:=by
  have h1:=jbW (l:=zs) (j:=i+j) (by rw [h.inv.len];omega) d;have h2:=h.val;rw [jaO,Nat.mul_add,show i+(j+1)=(i+j)+1 from rfl,Nat.pow_succ];have h3:=congrArg (B64^(i+j)* ·) hde;simp only [Nat.mul_add] at h3
  have h4:B64^i*dg xs i*(B64^j*dg ys j)=B64^(i+j)*(dg xs i*dg ys j):=by
   rw [Nat.pow_add,Nat.mul_assoc,Nat.mul_assoc,Nat.mul_left_comm (dg xs i)]
  have h5:B64^(i+j)*B64*e=B64^(i+j)*(B64*e):=Nat.mul_assoc _ _ _;omega

structure MulOut (w wr:World) (g i:Nat) (xs ys zs:List Nat):Prop where
 inv:MulInv w wr g (xs.length+ys.length) zs
 far:∀p,i+ys.length≤p→dg zs p=0
 val:Pos.nv B64 zs=Pos.nv B64 (xs.take i)*Pos.nv B64 ys

theorem jdu (m p:Nat):dg (List.replicate m 0) p=0:=by
 simp only [dg,List.getD_eq_getElem?_getD,List.getElem?_replicate];split <;> rfl
theorem MulOut.start (w:World) (xs ys:List Nat):MulOut w (w.alloc (.cells (jfA [] (xs.length+ys.length)) 165)) w.heap.size 0 xs ys (List.replicate (xs.length+ys.length) 0) where
 inv:={
  len:=by simp
  dig:=fun d hd=>by rw [List.mem_replicate] at hd;rw [hd.2];exact ja9
  blk:=by rw [jco];exact Blk.new _ _ _
  bel:=(Below.refl _ _).alloc (Nat.le_refl _) _
  own:=Nat.le_refl _ }
 far:=fun p _=>jdu _ p
 val:=by rw [Pos.nv_zeros];simp [Pos.nv]
theorem MulOut.begin {w wr:World} {g i:Nat} {xs ys zs:List Nat} (h:MulOut w wr g i xs ys zs):MulIn w wr g i 0 0 xs ys zs where
 inv:=h.inv
 car:=ja9
 far:=h.far
 val:=by rw [h.val];simp [Pos.nv]
theorem MulIn.finish {w wr:World} {g i c:Nat} {xs ys zs:List Nat} (h:MulIn w wr g i ys.length c xs ys zs) (hi:i < xs.length):
  MulOut w (wr.setCell ⟨g,i+ys.length,none⟩ (.int .u64 (c:Int))) g (i+1) xs ys (zs.set (i+ys.length) c) where
 inv:=h.inv.put _ _ h.car
 far:=fun p hp=>by rw [jam (by omega)];exact h.far p (by omega)
 val:=by
  have h1:=jbW (l:=zs) (j:=i+ys.length) (by rw [h.inv.len];omega) c;rw [h.far _ (Nat.le_refl _),Nat.mul_zero] at h1;have h2:=h.val;rw [List.take_length] at h2;rw [jaO,Nat.add_mul];omega

theorem jhw (A A':Option Addr) (n n' c c':Nat) (ds es:List Nat) (w:World) (h:Wd w A n ds) (h':Wd w A' n' es) (hn:n < 274877906944) (hn':n' < 274877906944):
  Calls Tryz.prog 132 #[.slice A n c, .slice A' n' c'] w (jdK (Pos.nv B64 ds*Pos.nv B64 es) w):=by
 obtain rfl:=h.len;obtain rfl:=h'.len;have HD:=qh h;have HE:=qh h';clear h h';have hmk:=fun W=>jbJ (ds.length+es.length) (by omega) W
 simp only [Int.natCast_add] at hmk;go_enter Tryz.func132,Tryz.ntmps132;go_wp2
 go_loopw [22] (fun i wr=>∃(k:Nat) (zs:List Nat),k≤ds.length∧i= .int .i64 k∧MulOut w wr w.heap.size k ds es zs) (fun i _=>ds.length - (intOf i).toNat)
 case atStart=>exact ⟨0,_,Nat.zero_le _,rfl,MulOut.start _ _ _⟩
 case round=>
  obtain ⟨k,zs,hk,rfl,hI⟩:=hrel;by_cases hlt:k < ds.length
  ·have hB:=hI.begin;obtain ⟨b,o,rfl,hb,hcell⟩:=(HD.out.below hI.inv.bel).at_ (by omega);have hcl:=hcell k hlt;have hk0:(0:Int)≤(k:Int):=by omega
   have hk1:(k:Int) < (ds.length:Int):=by omega
   have HB:=qh hB;have HI:=qh hI;clear hcell hB hI;go_wp2
   go_loopw [8,29] (fun cr j wr2=>∃(j' c:Nat) (zs:List Nat),j'≤es.length∧j= .int .i64 j'∧cr= .int .u64 c∧MulIn w wr2 w.heap.size k j' c ds es zs) (fun _ j _=>es.length - (intOf j).toNat)
   case atStart=>exact ⟨0,0,zs,Nat.zero_le _,rfl,rfl,HB.out⟩
   case round=>
    obtain ⟨j,c,zs,hj,rfl,rfl,hJ⟩:=hrel;by_cases hlj:j < es.length
    ·obtain ⟨pl1,pl2⟩:=hJ.inv.place (j:=k+j) (by omega);obtain ⟨b',o',rfl,hb',hcell'⟩:=(HE.out.below hJ.inv.bel).at_ (by omega);have hcl':=hcell' j hlj;have hj0:(0:Int)≤(j:Int):=by omega
     have hj1:(j:Int) < (es.length:Int):=by omega
     have u1:=jac HD.out.dig k;have u2:=jac HE.out.dig j;have u3:=jac hJ.inv.dig (k+j);have hms:=jjD (b:=B64) u1 u2 u3 hJ.car;obtain ⟨hi,ehi⟩:∃q,q=dg ds k*dg es j / B64:=⟨_,rfl⟩;obtain ⟨lo,elo⟩:∃q,q=dg ds k*dg es j % B64:=⟨_,rfl⟩;rw [←ehi,←elo] at hms;obtain ⟨d1,ed1⟩:∃q,q=(lo+dg zs (k+j)) % B64:=⟨_,rfl⟩;obtain ⟨e1,ee1⟩:∃q,q=(lo+dg zs (k+j)) / B64:=⟨_,rfl⟩;rw [←ed1,←ee1] at hms;obtain ⟨d2,ed2⟩:∃q,q=(d1+c) % B64:=⟨_,rfl⟩;obtain ⟨e2,ee2⟩:∃q,q=(d1+c) / B64:=⟨_,rfl⟩;rw [←ed2,←ee2] at hms;have hS:=hJ.step hlt hlj (by rw [ed2];exact Nat.mod_lt _ ja9) hms.2 hms.1;have b1:(hi:Int)+(e1:Int) < 18446744073709551616:=by have:=hms.2;rw [ja7] at this;omega
     have b2:(hi:Int)+(e1:Int)+(e2:Int) < 18446744073709551616:=by have:=hms.2;rw [ja7] at this;omega
     have HJ:=qh hJ;have HS:=qh hS;have M1:=qh ehi;have M2:=qh elo;have a1:=fun w=>jby lo (dg zs (k+j)) d1 e1 ed1 ee1 w
     have a2:=fun w=>jby d1 c d2 e2 ed2 ee2 w
     clear hJ hS hcell' hms ehi elo ed1 ee1 ed2 ee2;go_wp2_with (go_at_call 130;((with_reducible refine (jax _ _ _ _ u1 u2 M1.out M2.out _).mono ?_);rintro e w1 ⟨rfl,rfl⟩))
     exact ⟨⟨j+1,hi+e1+e2,_,by omega,by go_num,by simp only [Int.natCast_add],HS.out⟩,by simp [intOf];omega⟩
    ·have e:j=es.length:=by omega
     subst e;have hF:=hJ.finish hlt;obtain ⟨pl1,pl2⟩:=hJ.inv.place (j:=k+es.length) (by omega);have hj0:(0:Int)≤(es.length:Int):=by omega
     have hj1:(k:Int)+(es.length:Int) < (ds.length:Int)+(es.length:Int):=by omega
     have HJ:=qh hJ;have HF:=qh hF;clear hJ hF;go_wp2
     go_roundw
     case rel=>exact ⟨k+1,_,by omega,by go_num,HF.out⟩
     case measure=>simp [intOf];omega
  ·have e:k=ds.length:=by omega
   subst e
   have st1:Wd wr (some ⟨w.heap.size,0,none⟩) (ds.length+es.length) zs:=
    Wd.of_blk hI.inv.blk rfl hI.inv.len (by omega) hI.inv.dig
   have st2:=hI.val;rw [List.take_length] at st2;have st3:=hI.inv.bel;have H1:=qh st1;have H2:=qh st2;have H3:=qh st3;clear hI st1 st2 st3;go_wp2_with (go_at_call 170;((with_reducible refine (jbs _ _ _ _ _ H1.out (Nat.le_refl _) (by omega)).mono ?_);rintro e w1 ⟨j,hj,ht,hv,rfl,rfl⟩))
   go_ret;exact jg3 rfl hj (by omega) (H1.out.take hj) ht (hv.trans H2.out) H3.out
end Go.Proofs.YteokfcjdfjhhhaaGreatDoor
