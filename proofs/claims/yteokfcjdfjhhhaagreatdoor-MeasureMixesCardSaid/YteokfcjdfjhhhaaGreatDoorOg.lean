/- Parts. -/
import Derived.Test.YteokfcjdfjhhhaaGreatDoorOdG
import Derived.Test.YteokfcjdfjhhhaaGreatDoorMxG
set_option linter.all false
set_option maxRecDepth 100000
set_option maxHeartbeats 8000000
namespace Go.Proofs.YteokfcjdfjhhhaaGreatDoor
open Go Go.RowKit

structure MixIn (w:World) (A:Option Addr) (n:Nat) (ls:List Lay) (mass:Int) (q:Nat):Prop where
 view:Lv w A n ls
 pos:0 < n
 le:n≤64
 lay:∀x∈ls,LayIn x
 qle:q≤18
 sz:∀x∈ls,∀p∈x.shares,Sz q (numQ p.2)
 chk:jab jaj ls=0
 mix:jgq (ls.getD 0 jaA).grain 0 ls=(mass,0)
theorem jbu {α:Type} {l:List α} {i:Nat} {d:α} (h:i < l.length):l.getD i d∈l:=by
 rw [List.getD_eq_getElem?_getD,List.getElem?_eq_getElem h];exact List.getElem_mem h
section
variable {w:World} {A:Option Addr} {n q:Nat} {ls:List Lay} {mass:Int}
theorem MixIn.layer (h:MixIn w A n ls mass q) {i:Nat} (hi:i < n):(ls.getD i jaA)∈ls∧1≤(ls.getD i jaA).mass∧(ls.getD i jaA).mass≤999999999∧(ls.getD i jaA).shares.length≤64:=by
 have hm:=jbu (d:=jaA) (show i < ls.length by rw [h.view.len];exact hi);have h1:=jan (jay h.chk _ hm);exact ⟨hm,h1.2.1,h1.2.2.1,(jav h1.2.2.2).1.2⟩
theorem MixIn.share (h:MixIn w A n ls mass q) {x:Lay} (hx:x∈ls) {p:List UInt8×List UInt8} (hp:p∈x.shares):IsNum p.2 (numQ p.2)∧p.1.length≤maxLen∧Sz q (numQ p.2):=by
 have h1:=jan (jay h.chk _ hx);have h2:=(jav h1.2.2.2).2 p hp;refine ⟨jbQ h2.2.1, ?_,h.sz x hx p hp⟩;have:=h2.1;simp [jaZ] at this;unfold maxLen;omega
theorem jhI (h:MixIn w A n ls mass q) {x:Lay} (hx:x∈ls) {c:List UInt8×Rat} (hc:c∈jb1 x.mass x.shares):Sz (q+1) c.2:=by
 unfold jb1 at hc;obtain ⟨p,hp,rfl⟩:=List.mem_map.1 hc;have h1:=(h.share hx hp).2.2;have h2:=jan (jay h.chk _ hx);exact h1.mul (jdG ⟨by omega,by omega⟩)
theorem jjE (h:MixIn w A n ls mass q) {i:Nat} {c:List UInt8×Rat} (hc:c∈jal (ls.take i)):Sz (q+1) c.2:=by
 unfold jal at hc;obtain ⟨x,hx,hc⟩:=List.mem_flatMap.1 hc;exact jhI h (List.mem_of_mem_take hx) hc
theorem jkE (h:MixIn w A n ls mass q) {y:List UInt8} (hy:jbF (jal ls) y=true):y.length≤maxLen:=by
 unfold jbF at hy;obtain ⟨c,hc,he⟩:=List.any_eq_true.1 hy;have he':c.1=y:=by simpa using he
 unfold jal at hc;obtain ⟨x,hx,hc⟩:=List.mem_flatMap.1 hc;unfold jb1 at hc;obtain ⟨p,hp,rfl⟩:=List.mem_map.1 hc;have:=(h.share hx hp).2.1;rw [←he'];exact this
noncomputable def jfg (ls:List Lay) (i k:Nat):List (List UInt8×Rat):=jal (ls.take i)++jb1 (ls.getD i jaA).mass ((ls.getD i jaA).shares.take k)
theorem jj8 (h:MixIn w A n ls mass q) {i k:Nat} (hi:i < n):(jfg ls i k).length≤4096:=by
 have h1:=jde (ls:=ls.take i) (fun x hx=>by
  have:=jan (jay h.chk _ (List.mem_of_mem_take hx))
  exact (jav this.2.2.2).1.2)
 have h2:=(h.layer hi).2.2.2;have h3:((ls.getD i jaA).shares.take k).length≤64:=by rw [List.length_take];omega
 have h4:(ls.take i).length≤63:=by have:=h.le;rw [List.length_take];omega
 unfold jfg;rw [List.length_append,jdR];omega
theorem jmQ {cs:List (List UInt8×Rat)} (y:List UInt8) (hq:q≤18) (hl:cs.length≤4096) (hc:∀c∈cs,Sz (q+1) c.2):Sz 82000 (tot cs y):=by
 refine (jpr y hc).mono ?_;have:cs.length*(q+1+1)≤4096*20:=Nat.mul_le_mul hl (by omega);omega
theorem jpG (h:MixIn w A n ls mass q) {i k:Nat} (hi:i < n) (y:List UInt8):Sz 82000 (tot (jfg ls i k) y):=by
 refine jmQ y h.qle (jj8 h hi) (fun c hc=> ?_);rcases List.mem_append.1 hc with hc|hc
 ·exact jjE h hc
 ·have hm:=(h.layer hi).1;refine jhI h hm ?_;unfold jb1 at hc ⊢;obtain ⟨p,hp,e⟩:=List.mem_map.1 hc;exact List.mem_map.2 ⟨p,List.mem_of_mem_take hp,e⟩
theorem jro (h:MixIn w A n ls mass q) (y:List UInt8):Sz 82000 (tot (jal ls) y):=by
 refine jmQ y h.qle ?_ (fun c hc=>jjE h (i:=ls.length) (by rwa [List.take_length]))
 have h1:=jde (ls:=ls) (fun x hx=>by
  have:=jan (jay h.chk _ hx)
  exact (jav this.2.2.2).1.2)
 have:=h.view.len;have:=h.le;omega
theorem jh0 {i:Nat}:jfg ls i 0=jal (ls.take i):=by unfold jfg;simp [jb1]
theorem jjM {i:Nat} (hi:i < ls.length):jfg ls i (ls.getD i jaA).shares.length=jal (ls.take (i+1)):=by
 unfold jfg;rw [List.take_length];exact jfF hi rfl
theorem jhK {i k:Nat} {p:List UInt8×List UInt8} (hk:k < (ls.getD i jaA).shares.length) (hp:(ls.getD i jaA).shares.getD k ([],[])=p):jfg ls i k++[(p.1,numQ p.2*(((ls.getD i jaA).mass:Int):Rat))]=jfg ls i (k+1):=by
 unfold jfg;rw [List.append_assoc,jix hk hp]
theorem jqb (hE:Env w) (h:MixIn w A n ls mass q) {c:Nat}:Calls Tryz.prog 39 #[.slice A n c] w fun e w'=>e= .returned (.tuple #[.int .i64 mass, .int .i64 0])∧Below w.heap.size w w':=by
 have:=jkX (c:=c) hE h.view h.pos h.le h.lay h.chk h.mix;exact this
theorem jas {w:World} {a:Addr} {v:Value} (h:w.cell? a=some v) (o:Obj):(w.alloc o).cell? a=some v:=by
 rw [World.cell?_alloc_lt _ _ _ (World.block_lt_of_cell? _ _ h)];exact h
theorem jcw {w:World} {b:Nat} (hb:b < w.heap.size) (h:∀o,w.frozen? ⟨b,o,none⟩=false) (x:Obj) (o:Nat):(w.alloc x).frozen? ⟨b,o,none⟩=false:=by
 rw [jbn (World.grownBy_alloc w x none) hb (by simp)];exact h o
theorem jca {w:World} {base n:Nat} {v:Value} {ps:List (List UInt8×List UInt8)} (h:jc0 w base v n ps):∀g,v.ownBlock=some g→base≤g:=fun g hg=>(World.ownsRow.lt h g hg).1
theorem jgS {w w3:World} {g:List UInt8} {m:Int} {o:Obj} (h:Below ((w.alloc (.cells #[bs g, .int .i64 m, .slice none 0 0] 29)).alloc o).heap.size ((w.alloc (.cells #[bs g, .int .i64 m, .slice none 0 0] 29)).alloc o) w3):jcs w3 w.heap.size:=fun p z h1=>by
 rw [(jfp h).1 _ _ (by simp;omega)] at h1;rw [World.cell?_alloc_lt _ _ _ (by simp)] at h1;rcases p with _ | _ | _|p <;> simp at h1
theorem Lv.low {w w':World} {A:Option Addr} {n i:Nat} {ls:List Lay} (h:Lv w A n ls) (hi:i < n) (hb:Below w.heap.size w w'):∃b o B d,A=some ⟨b,o,none⟩∧w'.cell? ⟨b,o+i*3,none⟩=some (bs (ls.getD i jaA).grain)∧w'.cell? ⟨b,o+i*3+1,none⟩=some (.int .i64 (ls.getD i jaA).mass)∧w'.cell? ⟨b,o+i*3+2,none⟩=some (.slice B (ls.getD i jaA).shares.length d)∧Pv w B (ls.getD i jaA).shares.length (ls.getD i jaA).shares:=by
 obtain ⟨b,o,rfl,hbl,hat⟩:=h.at_ (by omega);obtain ⟨B,d,h1,h2,h3,h4⟩:=(hat i hi).at_;exact ⟨b,o,B,d,rfl,ja5 hb h1,ja5 hb h2,ja5 hb h3,h4⟩
end
section
variable {w:World} {A:Option Addr} {n c q:Nat} {ls:List Lay} {mass:Int} {ks:List (List UInt8)} {outs:List (List UInt8×List UInt8)} {g0:List UInt8}
set_option maxHeartbeats 16000000 in
theorem jps (hE:Env w) (h:MixIn w A n ls mass q) (ho:Ordered ks) (hm:∀x,x∈ks↔jbF (jal ls) x=true) (h0:0 < ks.length) (hg0:(ls.getD 0 jaA).grain=g0)
  (hol:outs.length=ks.length) (hout:ks.length≤64→∀j,j < ks.length→(outs.getD j ([],[])).1=ks.getD j []∧StrQ (tot (jal ls) (ks.getD j []) / ((mass:Int):Rat))∧jbC (tot (jal ls) (ks.getD j []) / ((mass:Int):Rat))=(outs.getD j ([],[])).2∧jbq (tot (jal ls) (ks.getD j []) / ((mass:Int):Rat))=0):
  Calls Tryz.prog 11 #[.slice A n c] w fun e w'=>(64 < ks.length∧e= .returned (.tuple #[.agg #[bs [], .int .i64 0, .slice none 0 0], .int .i64 5])∨ks.length≤64∧∃B d,e= .returned (.tuple #[.agg #[bs g0, .int .i64 mass, .slice B ks.length d], .int .i64 0])∧Pv w' B ks.length outs)∧Below w.heap.size w w':=by
 have HE:=qh hE;have HI:=qh h;have HN:=qh h.le;have H0:=qh h.pos;have HO:=qh ho;have HKM:=qh hm;have HK0:=qh h0;have HG0:=qh hg0;have HOL:=qh hol;have HOUT:=qh hout;have hmm:= @run_makeMap Tryz.prog;clear hE h ho hm h0 hg0 hol hout;go_enter Tryz.func11,Tryz.ntmps11;go_wp2_with (go_at_call 39;(with_reducible refine mo1 w (jqb (HE.out.below bi) ⟨HI.out.view.below bi,HI.out.pos,HI.out.le,HI.out.lay,HI.out.qle,HI.out.sz,HI.out.chk,HI.out.mix⟩) (by go_size) fun w1 hb1 hc1 hf1 z1_0 _=> ?_))
 have hlt:w.heap.size < w1.heap.size:=z1_0;obtain ⟨M,hM⟩:∃x,w1.heap.size=x:=⟨_,rfl⟩;have HQ0:=MapQ.made w1;simp only [hM] at HQ0 hlt ⊢;have hbM:Below w.heap.size w w1:=bi;have zM:(w1.alloc (.map #[] 0)).heap.size=M+1:=by rw [World.size_alloc,hM]
 go_loopw [31] (fun u wr=>∃(i:Nat) (D:DataW Value),u= .int .i64 (i:Int)∧i≤n∧Below w.heap.size w wr∧w.heap.size < wr.heap.size
  ∧wr.cell? ⟨w.heap.size,0,none⟩=some (bs [])∧wr.cell? ⟨w.heap.size,1,none⟩=some (.int .i64 0)∧wr.cell? ⟨w.heap.size,2,none⟩=some (.slice none 0 0)∧(∀o,wr.frozen? ⟨w.heap.size,o,none⟩=false)
  ∧MapQ wr M (jal (ls.take i)).length D (jal (ls.take i))) (fun u _=>n - (intOf u).toNat)
 case atStart=>exact ⟨0,_,rfl,Nat.zero_le _,bi,by rw [zM];omega,by simp [go_sem,hc1,z1_0],by simp [go_sem,hc1,z1_0],by simp [go_sem,hc1,z1_0],by intro o;simp [go_sem,hf1,z1_0],HQ0⟩
 case round=>
  obtain ⟨i,D,rfl,hin,hb,hsz,e0,e1,e2,f0,hq⟩:=hrel;have _:=bm hb;have HQ:=qh hq;clear hq HQ0 hc1 hf1 zM hb1 hmm;by_cases hi:i < n
  ·have p0:decide (i < n)=true:=by simpa using hi
   have hnn:=HN.out;obtain ⟨b,o,B,d,rfl,k0,k1,k2,kp⟩:=HI.out.view.low hi hb;have HP:=qh kp;have HL:=qh (HI.out.layer hi);have HII:=qh hi;obtain ⟨g,hg⟩:∃x,(ls.getD i jaA).grain=x:=⟨_,rfl⟩;obtain ⟨m,hm⟩:∃x,(ls.getD i jaA).mass=x:=⟨_,rfl⟩;obtain ⟨l,hl⟩:∃x,(ls.getD i jaA).shares.length=x:=⟨_,rfl⟩;have HMM:=qh hm;have HLL:=qh hl;rw [hg] at k0;rw [hm] at k1 HL;rw [hl] at k2 HL HP;clear hg hm hl kp hi;go_wp2;obtain ⟨B8,hB8⟩:∃x,wr.heap.size=x:=⟨_,rfl⟩;have HQ8:Hid (MapQ (wr.alloc (.cells #[bs g, .int .i64 m, .slice B l d] 29)) M (jfg ls i 0).length D (jfg ls i 0)):=qh (by rw [jh0];exact HQ.out.below bi);have hM8:M < B8:=by rw [←hB8];exact HQ.out.lt
   have hsz8:w.heap.size < B8:=by rw [←hB8];exact hsz
   have hne8:=nl hsz8;have z8:(wr.alloc (.cells #[bs g, .int .i64 m, .slice B l d] 29)).heap.size=B8+1:=by rw [World.size_alloc,hB8]
   have s8:(wr.alloc (.cells #[bs g, .int .i64 m, .slice B l d] 29)).cell? ⟨B8,1,none⟩=some (.int .i64 m):=by rw [←hB8];simp
   simp only [hB8]
   go_loopw [38] (fun u wx=>∃(k:Nat) (D:DataW Value),u= .int .i64 (k:Int)∧k≤l∧Below w.heap.size w wx∧B8 < wx.heap.size
    ∧wx.cell? ⟨w.heap.size,0,none⟩=some (bs [])∧wx.cell? ⟨w.heap.size,1,none⟩=some (.int .i64 0)∧wx.cell? ⟨w.heap.size,2,none⟩=some (.slice none 0 0)∧(∀o,wx.frozen? ⟨w.heap.size,o,none⟩=false)
    ∧wx.cell? ⟨B8,1,none⟩=some (.int .i64 m)∧MapQ wx M (jfg ls i k).length D (jfg ls i k)) (fun u _=>l - (intOf u).toNat)
   case atStart=>exact ⟨0,D,rfl,Nat.zero_le _,bi,by rw [z8];omega,jas e0 _,jas e1 _,jas e2 _,fun o=>jcw hsz f0 _ o,s8,HQ8.out⟩
   case round=>
    obtain ⟨k,D,rfl,hkl,hb2,hsz2,r0,r1,r2,rf,t8,hq⟩:=hrel;have _:=bm hb2;have HQ:=qh hq;clear hq HQ8 z8 s8 k0 k1 k2 hb e0 e1 e2 f0;by_cases hk:k < l
    ·have p1:decide (k < l)=true:=by simpa using hk
     have hii:=HII.out;have HKK:=qh hk;have hl64:=HL.out.2.2.2;obtain ⟨b',o',rfl,hbl',hcell⟩:=(HP.out.below hb2).at_ (by omega);obtain ⟨hx,hy⟩:=hcell k hk;have hmem:((ls.getD i jaA).shares.getD k ([],[]))∈(ls.getD i jaA).shares:=jbu (by rw [HLL.out];exact hk);have HSH:=qh (HI.out.share (HI.out.layer hii).1 hmem);have HST:=qh (jhK (k:=k) (p:=(ls.getD i jaA).shares.getD k ([],[])) (by rw [HLL.out];exact hk) rfl);rw [HMM.out] at HST;obtain ⟨x1,hx1⟩:∃x,((ls.getD i jaA).shares.getD k ([],[])).1=x:=⟨_,rfl⟩;obtain ⟨x2,hx2⟩:∃x,((ls.getD i jaA).shares.getD k ([],[])).2=x:=⟨_,rfl⟩;obtain ⟨v,hv⟩:∃v,numQ ((ls.getD i jaA).shares.getD k ([],[])).2=v:=⟨_,rfl⟩;rw [hv] at HSH HST;rw [hx1] at hx HSH HST;rw [hx2] at hy HSH;have HT:=qh (jpG HI.out (k:=k) hii x1);have HCL:=qh (jj8 HI.out (k:=k) hii);obtain ⟨cs,hcs⟩:∃c,jfg ls i k=c:=⟨_,rfl⟩;rw [hcs] at HST HT HCL HQ;have HSM:Hid (SmallQ ((m:Int):Rat)):=qh (jcE (by have:=HL.out;omega) (by have:=HL.out;omega));obtain ⟨z,hz⟩:∃z,v*((m:Int):Rat)=z:=⟨_,rfl⟩;have HZ:=qh hz;rw [hz] at HST;clear hcell hmem hx1 hx2 hv hcs hz hk;go_upto_region 11 with (fail)
     go_cut [11] (fun u wx=>∃b11,u= .pointer (some ⟨b11,0,none⟩)∧wr.heap.size < b11∧b11 < wx.heap.size∧Below (wr.alloc (.cells #[bs x1,bs x2] 42)).heap.size (wr.alloc (.cells #[bs x1,bs x2] 42)) wx∧(∀o,wx.frozen? ⟨b11,o,none⟩=false)∧FAt wx b11 0 z)
     case first=>
      refine ja3 (fun w'=>Below (wr.alloc (.cells #[bs x1,bs x2] 42)).heap.size (wr.alloc (.cells #[bs x1,bs x2] 42)) w') [8] (by kernel_rfl) ?_;refine tb 0 (.pointer (some ⟨wr.heap.size,1,none⟩)) [1] rfl (by kernel_rfl) pk rfl (by intros;go_simp) bq0 ?_;refine tb 1 (bs x2) [2] rfl (by kernel_rfl) pk rfl (by intros;go_simp) bq0 ?_;refine tb 3 (.pointer (some ⟨B8,1,none⟩)) [4] rfl (by kernel_rfl) pk rfl (by intros;go_simp) bq0 ?_;refine tb 4 (.int .i64 m) [5] rfl (by kernel_rfl) pk rfl (by intros;go_simp) bq0 ?_;simp only [ppq];refine ja0 (rs:=[2,7]) (by kernel_rfl) (by simp) (AllT.cons rfl (fun K hK=> ?o1) (AllT.cons rfl (fun K hK=> ?o2) AllT.nil))
      case' o1=>
       go_simp;go_wp2_with ((go_at_call 31;(with_reducible refine mf0 (jaz HSH.out.1 (HE.out.below bi)) fun w2x s2x A2x n2x c2x t2x B2x m2x d2x hr2x hq2x hb2x hc2x hf2x _=> ?_));(first|have hy2x_0:=szl (k:=wr.heap.size+1) hb2x (by first|go_size|fail)|have hy2x_0:=Nat.one_pos))
       refine hK.out _ _ (fun _=>bi) ?_;clear hK K;refine ja0 (rs:=[5,7]) (by kernel_rfl) (by simp) (AllT.cons rfl (fun K hK=> ?o3) (AllT.cons rfl (fun K hK=> ?o4) AllT.nil))
       case' o3=>
        go_simp;go_wp2_with ((go_at_call 29;(with_reducible refine mo0 (jd8 HSM.out) fun w3x hb3x hc3x hf3x _=> ?_));(first|have hy3x_0:=szl (k:=wr.heap.size+1) hb3x (by first|go_size|fail)|have hy3x_0:=Nat.one_pos);(first|have hy3x_1:=szl (k:=w2x.heap.size) hb3x (by first|go_size|fail)|have hy3x_1:=Nat.one_pos))
        refine hK.out _ _ (fun _=>bi) ?_;clear hK K;refine ja0 (rs:=[6,7]) (by kernel_rfl) (by simp) (AllT.cons rfl (fun K hK=> ?o5) (AllT.cons rfl (fun K hK=> ?o6) AllT.nil))
        case' o5=>
         go_simp;go_wp2_with ((go_at_call 40;(with_reducible refine mf0 (jaI q 1 HZ.out (RepF.below ⟨hr2x,hq2x⟩ bi) (HSM.out.rep _) HSH.out.2.2 HSM.out.sz (by have:=HI.out.qle;omega)) fun w4x s4x A4x n4x c4x t4x B4x m4x d4x hr4x hq4x hb4x hc4x hf4x _=> ?_));(first|have hy4x_0:=szl (k:=wr.heap.size+1) hb4x (by first|go_size|fail)|have hy4x_0:=Nat.one_pos);(first|have hy4x_1:=szl (k:=w2x.heap.size) hb4x (by first|go_size|fail)|have hy4x_1:=Nat.one_pos);(first|have hy4x_2:=szl (k:=w3x.heap.size) hb4x (by first|go_size|fail)|have hy4x_2:=Nat.one_pos))
         refine hK.out _ _ (fun _=>bi) ?_;clear hK K;refine ja0 (rs:=[7]) (by kernel_rfl) (by simp) (AllT.cons rfl (fun K hK=> ?_) AllT.nil);go_simp;refine hK.out _ _ (fun _=>bi) ?_;clear hK K
        case' o6=>
         go_simp;refine hK.out _ _ (fun _=>bi) ?_;clear hK K;refine ja0 (rs:=[6]) (by kernel_rfl) (by simp) (AllT.cons rfl (fun K hK=> ?_) AllT.nil);go_simp;go_wp2_with ((go_at_call 40;(with_reducible refine mf0 (jaI q 1 HZ.out (RepF.below ⟨hr2x,hq2x⟩ bi) (HSM.out.rep _) HSH.out.2.2 HSM.out.sz (by have:=HI.out.qle;omega)) fun w4x s4x A4x n4x c4x t4x B4x m4x d4x hr4x hq4x hb4x hc4x hf4x _=> ?_));(first|have hy4x_0:=szl (k:=wr.heap.size+1) hb4x (by first|go_size|fail)|have hy4x_0:=Nat.one_pos);(first|have hy4x_1:=szl (k:=w2x.heap.size) hb4x (by first|go_size|fail)|have hy4x_1:=Nat.one_pos);(first|have hy4x_2:=szl (k:=w3x.heap.size) hb4x (by first|go_size|fail)|have hy4x_2:=Nat.one_pos))
         refine hK.out _ _ (fun _=>bi) ?_;clear hK K
       case' o4=>
        go_simp;refine hK.out _ _ (fun _=>bi) ?_;clear hK K;refine ja0 (rs:=[5]) (by kernel_rfl) (by simp) (AllT.cons rfl (fun K hK=> ?_) AllT.nil);go_simp;go_wp2_with ((go_at_call 29;(with_reducible refine mo0 (jd8 HSM.out) fun w3x hb3x hc3x hf3x _=> ?_));(first|have hy3x_0:=szl (k:=wr.heap.size+1) hb3x (by first|go_size|fail)|have hy3x_0:=Nat.one_pos);(first|have hy3x_1:=szl (k:=w2x.heap.size) hb3x (by first|go_size|fail)|have hy3x_1:=Nat.one_pos))
        refine hK.out _ _ (fun _=>bi) ?_;clear hK K;refine ja0 (rs:=[6]) (by kernel_rfl) (by simp) (AllT.cons rfl (fun K hK=> ?_) AllT.nil);go_simp;go_wp2_with ((go_at_call 40;(with_reducible refine mf0 (jaI q 1 HZ.out (RepF.below ⟨hr2x,hq2x⟩ bi) (HSM.out.rep _) HSH.out.2.2 HSM.out.sz (by have:=HI.out.qle;omega)) fun w4x s4x A4x n4x c4x t4x B4x m4x d4x hr4x hq4x hb4x hc4x hf4x _=> ?_));(first|have hy4x_0:=szl (k:=wr.heap.size+1) hb4x (by first|go_size|fail)|have hy4x_0:=Nat.one_pos);(first|have hy4x_1:=szl (k:=w2x.heap.size) hb4x (by first|go_size|fail)|have hy4x_1:=Nat.one_pos);(first|have hy4x_2:=szl (k:=w3x.heap.size) hb4x (by first|go_size|fail)|have hy4x_2:=Nat.one_pos))
        refine hK.out _ _ (fun _=>bi) ?_;clear hK K
      case' o2=>
       go_simp;refine hK.out _ _ (fun _=>bi) ?_;clear hK K;refine ja0 (rs:=[2]) (by kernel_rfl) (by simp) (AllT.cons rfl (fun K hK=> ?_) AllT.nil);go_simp;go_wp2_with ((go_at_call 31;(with_reducible refine mf0 (jaz HSH.out.1 (HE.out.below bi)) fun w2x s2x A2x n2x c2x t2x B2x m2x d2x hr2x hq2x hb2x hc2x hf2x _=> ?_));(first|have hy2x_0:=szl (k:=wr.heap.size+1) hb2x (by first|go_size|fail)|have hy2x_0:=Nat.one_pos))
       refine hK.out _ _ (fun _=>bi) ?_;clear hK K;refine ja0 (rs:=[5]) (by kernel_rfl) (by simp) (AllT.cons rfl (fun K hK=> ?_) AllT.nil);go_simp;go_wp2_with ((go_at_call 29;(with_reducible refine mo0 (jd8 HSM.out) fun w3x hb3x hc3x hf3x _=> ?_));(first|have hy3x_0:=szl (k:=wr.heap.size+1) hb3x (by first|go_size|fail)|have hy3x_0:=Nat.one_pos);(first|have hy3x_1:=szl (k:=w2x.heap.size) hb3x (by first|go_size|fail)|have hy3x_1:=Nat.one_pos))
       refine hK.out _ _ (fun _=>bi) ?_;clear hK K;refine ja0 (rs:=[6]) (by kernel_rfl) (by simp) (AllT.cons rfl (fun K hK=> ?_) AllT.nil);go_simp;go_wp2_with ((go_at_call 40;(with_reducible refine mf0 (jaI q 1 HZ.out (RepF.below ⟨hr2x,hq2x⟩ bi) (HSM.out.rep _) HSH.out.2.2 HSM.out.sz (by have:=HI.out.qle;omega)) fun w4x s4x A4x n4x c4x t4x B4x m4x d4x hr4x hq4x hb4x hc4x hf4x _=> ?_));(first|have hy4x_0:=szl (k:=wr.heap.size+1) hb4x (by first|go_size|fail)|have hy4x_0:=Nat.one_pos);(first|have hy4x_1:=szl (k:=w2x.heap.size) hb4x (by first|go_size|fail)|have hy4x_1:=Nat.one_pos);(first|have hy4x_2:=szl (k:=w3x.heap.size) hb4x (by first|go_size|fail)|have hy4x_2:=Nat.one_pos))
       refine hK.out _ _ (fun _=>bi) ?_;clear hK K
      all_goals
       have g2:=hb2x.size;have g3:=hb3x.size;have g4:=hb4x.size
       (try simp at g2 g3 g4)
       refine rd1 8 (by kernel_rfl) rfl (fun K hK=> ?_);go_simp;refine hK.out _ _ (fun h=>(h (by decide)).elim) ?_;clear hK K;refine ja2 (by kernel_rfl) ?_ _;go_wp2_with (fail)
       go_meet;refine ⟨_,rfl,(by (try simp);(try omega)),(by (try simp);(try omega)),(by with_reducible repeat first|exact bR|assumption|apply bA|apply bD|apply bN|refine bC ?_ (by go_size)|refine bS ?_ ‹_›), ?_,⟨⟨s4x,A4x,n4x,c4x,t4x,B4x,m4x,d4x, ?_, ?_, ?_, ?_,⟨?_, ?_⟩⟩⟩⟩
       all_goals (first
        | (intro o;simp [go_sem,hc2x,hc3x,hc4x,hf2x,hf3x,hf4x,jcg,hy2x_0,hy3x_0,hy3x_1,hy4x_0,hy4x_1,hy4x_2,nls hy2x_0,nls hy3x_0,nls hy3x_1];done)
        | (simp [go_sem,hc2x,hc3x,hc4x,hf2x,hf3x,hf4x,jcg,hy2x_0,hy3x_0,hy3x_1,hy4x_0,hy4x_1,hy4x_2,nls hy2x_0,nls hy3x_0,nls hy3x_1];done)
        | exact (by with_reducible repeat first|assumption|apply rZ|refine rP ?_ rfl (by simp [go_sem,hc2x,hc3x,hc4x,jcg,hy2x_0,hy3x_0,hy3x_1,hy4x_0,hy4x_1,hy4x_2,nls hy2x_0,nls hy3x_0,nls hy3x_1])))
     case rest=>
      obtain ⟨b11,rfl,h11a,h11b,hbc,hf11,hat11⟩:=hcut;have _:=bm hbc;obtain ⟨s6,A6,n6,c6,t6,B6,m6,d6,j0,j1,j2,j3,hr6⟩:=hat11.at_;simp only [Nat.zero_add] at j0 j1 j2 j3;have HR6:=qh hr6;have hbw:Below wr.heap.size wr wc:=ja1 (ja4 (Below.refl _ _) _) hbc;have hbW:Below w.heap.size w wc:=ja1 hb2 hbw;have y0:wc.cell? ⟨wr.heap.size,0,none⟩=some (bs x1):=ja5 hbc (by simp);have hszr:w.heap.size < wr.heap.size:=Nat.lt_trans hsz8 hsz2;have hz10:wr.heap.size < wc.heap.size:=Nat.lt_trans h11a h11b;replace r0:=ja5 hbw r0;replace r1:=ja5 hbw r1;replace r2:=ja5 hbw r2;replace t8:=ja5 hbw t8;replace rf:=fun o=>jaE hbw hszr rf o
      have HQw:=HQ;have h11w:wr.heap.size≤b11:=Nat.le_of_lt h11a;have h11r:w.heap.size < b11:=Nat.lt_trans hszr h11a;have _:=Sx.mk h11w;have _:=Sx.mk (Nat.le_of_lt h11r);have h118:B8 < b11:=Nat.lt_trans hsz2 h11a;replace HQ:=qh (HQ.out.below hbw);replace hsz2:=Nat.lt_trans hsz2 hz10;replace hszr:=Nat.lt_trans hszr hz10;obtain ⟨B10,hB10⟩:∃x,wr.heap.size=x:=⟨_,rfl⟩;rw [hB10] at y0 h11a hz10;simp only [hB10];clear hat11 hr6 hbc hb2 hB10;have HXL:=qh HSH.out.2.1;cases hh:jbF cs x1 with
      | false=>
        have HH:=qh hh
        have HIF:Hid (∀W,Below wc.heap.size wc W→IsF W (fv s6 A6 n6 c6 t6 B6 m6 d6) (z+tot cs x1)):=qh (fun W hb=>by
         rw [jei hh,Rat.add_zero]
         exact ⟨s6,A6,n6,c6,t6,B6,m6,d6,rfl,HR6.out.below hb⟩)
        clear hh
        go_wp2_with (first
         | (at_lookup;refine jnf HQ.out HXL.out HH.out rfl _ _ rfl rfl rfl ?_)
         | (at_mapUpdate;refine jj5 (q:=z) (HQ.out.below bi) (Nat.lt_of_le_of_lt HCL.out (by omega)) HXL.out (HIF.out _ bi) rfl _ _ _ rfl rfl rfl rfl ?_;intro w5 D5 hmq5 hg5))
        have hBx:Below w.heap.size w (wc.alloc (.cells #[.int .i64 0, .slice none 0 0, .int .i64 0, .slice none 0 0] 71)):=ja4 hbW _;have hsx:w.heap.size < (wc.alloc (.cells #[.int .i64 0, .slice none 0 0, .int .i64 0, .slice none 0 0] 71)).heap.size:=by rw [World.size_alloc];omega
        exact ⟨⟨k+1,D5,by simp,HKK.out,Below.trans hBx (ja8 hg5 (Nat.le_of_lt hsx) (fun j hj=>by cases hj;exact Nat.le_of_lt hlt)),Nat.lt_of_lt_of_le (by rw [World.size_alloc];omega) hg5.size,
         hg5.cell (jas r0 _) (by simp;omega),hg5.cell (jas r1 _) (by simp;omega),hg5.cell (jas r2 _) (by simp;omega),fun o=>(jbn hg5 hsx (by simp;omega)).trans (jcw hszr rf _ o),hg5.cell (jas t8 _) (by simp;omega),
         by rw [←HST.out,List.length_append];exact hmq5⟩,by have:=HKK.out;simp [intOf];omega⟩
      | true=>
        have HH:=qh hh;obtain ⟨v0,hv0,s9,A9,n9,c9,t9,B9,m9,d9,rfl,hr9⟩:=HQ.out.val x1 hh;have HAT:=qh hv0;have HR9:=qh hr9;clear hh hv0 hr9
        go_wp2_with (first
         | (at_lookup;refine jjV HQ.out HXL.out HH.out HAT.out rfl _ _ rfl rfl rfl ?_)
         | ((go_at_call 33;(with_reducible refine mf0 (jdB (q+1) 82000 rfl (HR6.out.below bi) (HR9.out.below bi) (by rw [←HZ.out];exact HSH.out.2.2.mul HSM.out.sz) HT.out (by have:=HI.out.qle;omega)) fun w7 s7 A7 n7 c7 t7 B7 m7 d7 hr7 hq7 hb7 hc7 hf7 _=> ?_));(have bW7:Below wc.heap.size wc w7:=bi);have k70:=ja5 bW7 j0;have k71:=ja5 bW7 j1;have k72:=ja5 bW7 j2;have k73:=ja5 bW7 j3;have y7:=ja5 bW7 y0;have kf7:(∀o,w7.frozen? ⟨b11,o,none⟩=false):=fun o=>jaE bW7 h11b hf11 o;have z7:=Nat.lt_of_lt_of_le h11b bW7.size)
         | (at_mapUpdate;refine jj5 (q:=z) (HQw.out.below bi) (Nat.lt_of_le_of_lt HCL.out (by omega)) HXL.out ⟨s7,A7,n7,c7,t7,B7,m7,d7,rfl,⟨(by with_reducible repeat first|assumption|apply rZ|refine rP ?_ rfl (by simp [go_sem,k70,k71,k72,k73])),(by with_reducible repeat first|assumption|apply rZ|refine rP ?_ rfl (by simp [go_sem,k70,k71,k72,k73]))⟩⟩ rfl _ _ _ rfl rfl rfl rfl ?_;intro w5 D5 hmq5 hg5))
        have bW7:Below wc.heap.size wc w7:=bi;have q0:=ja5 bW7 r0;have q1:=ja5 bW7 r1;have q2:=ja5 bW7 r2;have q8:=ja5 bW7 t8;have qf:∀o,w7.frozen? ⟨w.heap.size,o,none⟩=false:=fun o=>jaE bW7 hszr rf o
        have zr7:=Nat.lt_of_lt_of_le hszr bW7.size;have z87:=Nat.lt_of_lt_of_le hsz2 bW7.size;have ne1:=nl h11r;have ne2:=nl h118;have le1:=Nat.le_of_lt h11r;have hBx:Below w.heap.size w ((((w7.setCell ⟨b11,0,none⟩ (.int .i64 s7)).setCell ⟨b11,1,none⟩ (.slice A7 n7 c7)).setCell ⟨b11,2,none⟩ (.int .i64 t7)).setCell ⟨b11,3,none⟩ (.slice B7 m7 d7)):=bi
        exact ⟨⟨k+1,D5,by simp,HKK.out,Below.trans hBx (ja8 hg5 (by simp;omega) (fun j hj=>by cases hj;exact Nat.le_of_lt hlt)),Nat.lt_of_lt_of_le (by simp;exact z87) hg5.size,
         hg5.cell (by simp [go_sem,q0,ne1]) (by simp;omega),hg5.cell (by simp [go_sem,q1,ne1]) (by simp;omega),hg5.cell (by simp [go_sem,q2,ne1]) (by simp;omega),fun o=>(jbn hg5 (by simp;exact zr7) (by simp;omega)).trans (by simp [go_sem,qf]),hg5.cell (by simp [go_sem,q8,ne2]) (by simp;omega),
         by rw [←HST.out,List.length_append];exact hmq5⟩,by have:=HKK.out;simp [intOf];omega⟩
    ·have p1:decide (k < l)=false:=by simp;omega
     have hkl':k=l:=by omega
     have HEND:=qh (jjM (ls:=ls) (i:=i) (by rw [HI.out.view.len];exact HII.out));rw [HLL.out] at HEND;subst hkl';clear hk;go_wp2
     go_roundw
     case rel=>exact ⟨i+1,D,by simp,HII.out,hb2,by omega,r0,r1,r2,rf,by rw [←HEND.out];exact HQ.out⟩
     case measure=>have:=HII.out;simp [intOf];omega
  ·have p0:decide (i < n)=false:=by simp;omega
   have e:i=n:=by omega
   subst e;have hq:=HQ.out;rw [List.take_of_length_le (by rw [HI.out.view.len];omega)] at hq;replace HQ:=qh hq;obtain ⟨b,o,B,d,rfl,k0,k1,k2,_⟩:=HI.out.view.low H0.out hb;rw [Nat.zero_mul,Nat.add_zero] at k0 k1 k2;rw [HG0.out] at k0;have HTOT:Hid (∀y,Sz 82000 (tot (jal ls) y)):=qh (fun y=>jro HI.out y)
   have HMB:Hid (0 < mass∧mass≤999999999):=qh (by
    have:=jkU (fun x hx=>(jan (jay HI.out.chk x hx)).2.1) HI.out.mix;have h1:=HI.out.view.len;have h2:=HI.out.pos
    omega)
   have HYS:Hid (∀y∈ks,y.length≤maxLen):=qh (fun y hy=>jkE HI.out ((HKM.out y).1 hy));obtain ⟨cs,hcs⟩:∃c,jal ls=c:=⟨_,rfl⟩;rw [hcs] at HQ HTOT HKM HOUT;have HLT:Hid (M < wr.heap.size):=qh HQ.out.lt;have hk0:=HK0.out;have hk00:=H0.out;clear hcs hq hi hin HI HG0;by_cases hkl:64 < ks.length
   ·have q2:decide ((64:Int) < (ks.length:Int))=true:=by rw [decide_eq_true_iff];omega
    have hks:=qh hkl;clear hkl hk0 hk00 k0 k1 k2;go_wp2_with (at_len;refine jpq HQ.out HO.out HKM.out rfl _ rfl rfl ?_)
    exact bodyPost_ret (v:= .tuple #[.agg #[bs [], .int .i64 0, .slice none 0 0], .int .i64 5]) (by simp [results,Tryz.results11,go_sem,e0,e1,e2,f0]) rfl ⟨.inl ⟨hks.out,rfl⟩,bi⟩
   replace hkl:=Nat.le_of_not_lt hkl;have HKL:=qh hkl;replace HOUT:=qh (HOUT.out hkl);have q2:decide ((64:Int) < (ks.length:Int))=false:=by rw [decide_eq_false_iff_not];omega
   go_wp2_with (first
    | (at_len;refine jpq HQ.out HO.out HKM.out rfl _ rfl rfl ?_)
    | (go_at_call 42;((with_reducible refine (jmH _ _).mono ?_);rintro e2 w2 ⟨rfl,rfl⟩))
    | (go_at_call 41;((with_reducible refine (jiB (HQ.out.below bi) HO.out HKM.out HK0.out (by omega) (by simp)).mono ?_);rintro e3 w3 ⟨g3,c3,rfl,hg3,hz3,hcell3,hb3⟩;have _:=bm hb3)))
   have hbwr:Below wr.heap.size wr w3:=ja1 (ja4 (ja4 (Below.refl _ _) _) _) hb3;have hbw3:Below w.heap.size w w3:=ja1 hb hbwr;have c0:w3.cell? ⟨wr.heap.size,0,none⟩=some (bs g0):=ja5 hb3 (by simp);have c1:w3.cell? ⟨wr.heap.size,1,none⟩=some (.int .i64 mass):=ja5 hb3 (by simp);have c2:w3.cell? ⟨wr.heap.size,2,none⟩=some (.slice none 0 0):=ja5 hb3 (by simp);have cf:∀o,w3.frozen? ⟨wr.heap.size,o,none⟩=false:=fun o=>jaE hb3 (by simp;omega) (fun o=>by simp [go_sem]) o
   have hNL:jcs w3 wr.heap.size:=jgS hb3;have r0:=ja5 hbwr e0;have r1:=ja5 hbwr e1;have r2:=ja5 hbwr e2;have rf:=fun o=>jaE hbwr hsz f0 o
   have HQ3:=qh (HQ.out.below hbwr);have hz14:wr.heap.size < w3.heap.size:=by have:=hb3.size;simp at this;omega
   have hM14:=HLT.out;have HN14:=qh hNL;obtain ⟨B14,hB14⟩:∃x,wr.heap.size=x:=⟨_,rfl⟩;rw [hB14] at c0 c1 c2 cf HN14 hsz hg3 hz14 hM14;simp only [hB14];clear hb hb3 hbwr e0 e1 e2 f0 HQ hNL HLT hB14 k0 k1 k2
   go_loopw [80] (fun u wx=>∃(j:Nat) (Ao:Option Addr) (co:Nat),u= .int .i64 (j:Int)∧j≤ks.length∧w3.grownBy wx (some B14)∧wx.cell? ⟨B14,0,none⟩=some (bs g0)∧wx.cell? ⟨B14,1,none⟩=some (.int .i64 mass)∧wx.cell? ⟨B14,2,none⟩=some (.slice Ao j co)∧(∀o,wx.frozen? ⟨B14,o,none⟩=false)
    ∧jc0 wx w3.heap.size (.slice Ao j co) j (outs.take j)) (fun u _=>ks.length - (intOf u).toNat)
   case atStart=>exact ⟨0,none,0,rfl,Nat.zero_le _,⟨rfl,rfl,rfl,Nat.le_refl _,fun _ _ _=>rfl⟩,c0,c1,c2,cf,World.ownsRow_nil _ _ _ _⟩
   case round=>
    obtain ⟨j,Ao,co,rfl,hjl,hg,d0,d1,d2,df,how⟩:=hrel;have HOW:=qh how;have hbx:Below w.heap.size w wr:=Below.trans hbw3 (ja8 hg hbw3.size (fun k hk=>by cases hk;exact Nat.le_of_lt hsz));have hzx:B14 < wr.heap.size:=Nat.lt_of_lt_of_le hz14 hg.size;clear how;by_cases hj:j < ks.length
    ·have p1:decide (j < ks.length)=true:=by simpa using hj
     have HJ:=qh hj;have HQx:=qh (HQ3.out.grown HN14.out (nl hM14) hg);have hkey:=hg.cell (hcell3 j hj) (by simp;omega);obtain ⟨o1,o2,o3,o4⟩:=HOUT.out j hj;have hyk:ks.getD j []∈ks:=jbu hj;have HT:=qh (HTOT.out (ks.getD j []))
     have HPR:Hid (outs.take j++[((ks.getD j []),(outs.getD j ([],[])).2)]=outs.take (j+1)):=qh (by
      rw [jdX (l:=outs) (i:=j) (d:=([],[])) (r:=(ks.getD j [],(outs.getD j ([],[])).2)) (by rw [HOL.out];exact hj) (by rw [←o1])])
     obtain ⟨y,hy⟩:∃y,ks.getD j []=y:=⟨_,rfl⟩;obtain ⟨tx,htx⟩:∃t,(outs.getD j ([],[])).2=t:=⟨_,rfl⟩;rw [hy] at hkey o2 o3 o4 hyk HT HPR;rw [htx] at o3 HPR;obtain ⟨v0,hv0,s9,A9,n9,c9,t9,B9,m9,d9,rfl,hr9⟩:=HQx.out.val y ((HKM.out y).1 hyk);have HAT:=qh hv0;have HR9:=qh hr9;obtain ⟨z,hz⟩:∃z,tot cs y / ((mass:Int):Rat)=z:=⟨_,rfl⟩;rw [hz] at o2 o3 o4;have HZ:=qh hz;have HSQ:=qh o2;have HGT:=qh o3;have HGE:=qh o4;have HSM:Hid (SmallQ ((mass:Int):Rat)):=qh (jcE (by have:=HMB.out;omega) (by have:=HMB.out;omega));have HM0:Hid (((mass:Int):Rat)≠0):=qh (by have:=HMB.out.1;simp;omega);have HYL:Hid (y.length≤maxLen):=qh (HYS.out y hyk);clear o1 o2 o3 o4 hyk hy htx hv0 hr9 hz hj;go_upto_region 24 with (fail)
     refine ja3 (fun w'=>Below wr.heap.size wr w') [] (by kernel_rfl) ?_;refine tb 0 (.map (some M)) [] rfl (by kernel_rfl) pk rfl (by intros;go_simp) bq0 ?_;refine tb 1 (bs y) [] rfl (by kernel_rfl) pk rfl (by intros;go_simp) bq0 ?_;simp only [ppq];refine jaF [] (i:=2) (v:=fv s9 A9 n9 c9 t9 B9 m9 d9) rfl (by kernel_rfl) (by kernel_rfl) (by kernel_rfl) (by kernel_rfl) (by kernel_rfl) (fun _ _ _ h=>h) (Or.inl ⟨by rfl,fun w' hS'=>jlw (HQx.out.below hS') HYL.out HAT.out (.tmp 85) (.tmp 86) rfl rfl rfl⟩) bi ?_;simp only [ppq];refine tb 3 (.int .i64 mass) [] rfl (by kernel_rfl) pk rfl (by intros;go_simp) bq0 ?_;simp only [ppq];refine rd1 4 (by kernel_rfl) rfl (fun K hK=> ?_);go_simp;go_wp2_with (go_at_call 29;(with_reducible refine mo0 (jd8 HSM.out) fun w4 hb4 hc4 hf4 _=> ?_))
     have sS4:=qh (bst bq0 hb4);refine hK.out _ _ (fun _=>sS4.out) ?_;clear hK K;refine rd1 5 (by kernel_rfl) rfl (fun K hK=> ?_);go_simp;go_wp2_with (go_at_call 44;(with_reducible refine mf0 (jc1 82000 1 HZ.out (HR9.out.below bi) (HSM.out.rep _) HT.out HSM.out.sz (by omega) HM0.out) fun w5 s5 A5 n5 c5 t5 B5 m5 d5 hr5 hq5 hb5 hc5 hf5 _=> ?_))
     have sS5:=qh (bst sS4.out hb5);refine hK.out _ _ (fun _=>sS5.out) ?_;clear hK K;refine rd1 6 (by kernel_rfl) rfl (fun K hK=> ?_);go_simp;go_wp2_with (go_at_call 43;(with_reducible refine mo0 (jdE HGT.out HGE.out ⟨hr5,hq5⟩ (HE.out.below (by with_reducible repeat first|exact bR|assumption|apply bA|apply bD|apply bN|refine bC ?_ (by go_size)|refine bS ?_ ‹_›)) HSQ.out) fun w6 hb6 hc6 hf6 _=> ?_))
     have sS6:=qh (bst sS5.out hb6);refine hK.out _ _ (fun _=>sS6.out) ?_;clear hK K;refine tb 7 (.tuple #[bs tx, .int .i64 0]) [] rfl (by kernel_rfl) pk rfl (by intros;go_simp) sS6.out ?_;refine tb 8 (bs tx) [] rfl (by kernel_rfl) pk rfl (by intros;go_simp) sS6.out ?_;refine tb 9 (.int .i64 0) [] rfl (by kernel_rfl) pk rfl (by intros;go_simp) sS6.out ?_;simp only [ppq];refine rd1 10 (by kernel_rfl) rfl (fun K hK=> ?_);go_simp;refine hK.out _ _ (fun _=>bi) ?_;clear hK K;refine rd1 11 (by kernel_rfl) rfl (fun K hK=> ?_);go_simp;refine hK.out _ _ (fun _=>bi) ?_;clear hK K;refine ja2 (by kernel_rfl) ?_ _;have bW6:Below wr.heap.size wr w6:=bi;have k0:=ja5 bW6 d0;have k1:=ja5 bW6 d1;have k2:=ja5 bW6 d2;have kf:=fun o=>jaE bW6 hzx df o
     have hz6:=Nat.lt_of_lt_of_le hzx bW6.size;have hg6:w3.grownBy (w6.alloc (.cells #[bs y,bs tx] 42)) (some B14):=(hg.trans (jdi bW6 _)).trans (World.grownBy_alloc _ _ _);have hne14:some B14≠(Value.slice Ao j co).ownBlock:=fun e=>by have:=jca HOW.out _ e.symm;omega
     go_wp2_with (at_builtin;refine jcT (x:=(y,tx)) rfl _ _ rfl rfl rfl rfl (HOW.out.below (ja4 bW6 _)) (by have:=HKL.out;have:=HJ.out;omega) hg6.size (by simp) (by simp) ?_;intro A7 c7 w7 ho7 hg7 hl7;have q0:=hg7.cell (jas k0 _) hne14;have q1:=hg7.cell (jas k1 _) hne14;have q2:=hg7.cell (jas k2 _) hne14;have qf:(∀o,w7.frozen? ⟨B14,o,none⟩=false):=fun o=>(jbn hg7 (by rw [World.size_alloc];omega) hne14).trans (jcw hz6 kf _ o))
     have hne7:some B14≠(Value.slice A7 (j+1) c7).ownBlock:=fun e=>by
      rcases hl7 with h|h
      ·exact hne14 (e.trans h)
      ·rw [h] at e;have hz:=hg.size;have hzz:=bW6.size;simp at e;omega
     exact ⟨⟨j+1,A7,c7,by simp,HJ.out,(jh8 hg6 hg7 (jca HOW.out)).trans (jb4 _),by simp [go_sem,q0],by simp [go_sem,q1],by simp [go_sem,q2],by intro o;simp [go_sem,qf],
      by rw [←HPR.out];exact World.ownsRow.kept ho7 (jb4 _) (by cases hv:(Value.slice A7 (j+1) c7).ownBlock with
       | none=>simp
       | some g=>exact .inr (fun e=>hne7 (by rw [hv];exact e.symm)))⟩,by have:=HJ.out;simp [intOf];omega⟩
    ·have p1:decide (j < ks.length)=false:=by simp;omega
     have e:j=ks.length:=by omega
     subst e;have how:=HOW.out;rw [List.take_of_length_le (by rw [HOL.out];omega)] at how;have s0:=hg.cell r0 (by simp;omega);have s1:=hg.cell r1 (by simp;omega);have s2:=hg.cell r2 (by simp;omega);have sf:∀o,wr.frozen? ⟨w.heap.size,o,none⟩=false:=fun o=>(jbn hg (by have:=hbw3.size;omega) (by simp;omega)).trans (rf o)
     have hrow:=jca how;have hner:some w.heap.size≠(Value.slice Ao ks.length co).ownBlock:=fun e=>by have:=hrow _ e.symm;omega
     clear hj HOW;go_wp2;refine bodyPost_ret (v:= .tuple #[.agg #[bs g0, .int .i64 mass, .slice Ao ks.length co], .int .i64 0]) (by simp [results,Tryz.results11,go_sem,s0,s1,s2,sf]) rfl ?_;have hg3w:wr.grownBy (((wr.setCell ⟨w.heap.size,0,none⟩ (bs g0)).setCell ⟨w.heap.size,1,none⟩ (.int .i64 mass)).setCell ⟨w.heap.size,2,none⟩ (.slice Ao ks.length co)) (some w.heap.size):=((jb4 _).trans (jb4 _)).trans (jb4 _)
     have how3:jc0 (((wr.setCell ⟨w.heap.size,0,none⟩ (bs g0)).setCell ⟨w.heap.size,1,none⟩ (.int .i64 mass)).setCell ⟨w.heap.size,2,none⟩ (.slice Ao ks.length co)) w3.heap.size (.slice Ao ks.length co) ks.length outs:=World.ownsRow.kept how hg3w (by
      cases hv:(Value.slice Ao ks.length co).ownBlock with
      | none=>simp
      | some g=>exact .inr (fun e=>hner (by rw [hv];exact e.symm)))
     obtain ⟨A',d',e',hv⟩:=how3.pv HOL.out hk0;cases e'
     exact ⟨.inr ⟨HKL.out,_,_,rfl,hv⟩,(by with_reducible repeat first|exact bR|assumption|apply bA|apply bD|apply bN|refine bC ?_ (by go_size)|refine bS ?_ ‹_›)⟩
theorem jpt (hE:Env w) (h:MixIn w A n ls mass q) (ho:Ordered ks) (hm:∀x,x∈ks↔jbF (jal ls) x=true) (h0:0 < ks.length) (hkl:ks.length≤64) (hg0:(ls.getD 0 jaA).grain=g0)
  (hol:outs.length=ks.length) (hout:∀j,j < ks.length→(outs.getD j ([],[])).1=ks.getD j []∧StrQ (tot (jal ls) (ks.getD j []) / ((mass:Int):Rat))∧jbC (tot (jal ls) (ks.getD j []) / ((mass:Int):Rat))=(outs.getD j ([],[])).2∧jbq (tot (jal ls) (ks.getD j []) / ((mass:Int):Rat))=0):
  Calls Tryz.prog 11 #[.slice A n c] w fun e w'=>∃B d,e= .returned (.tuple #[.agg #[bs g0, .int .i64 mass, .slice B ks.length d], .int .i64 0])∧Pv w' B ks.length outs∧Below w.heap.size w w':=
 (jps hE h ho hm h0 hg0 hol (fun _=>hout)).mono fun e w' ⟨h1,h2⟩=>by
   rcases h1 with ⟨h,_⟩|⟨_,B,d,e1,e2⟩
   ·omega
   ·exact ⟨B,d,e1,e2,h2⟩
end
end Go.Proofs.YteokfcjdfjhhhaaGreatDoor
