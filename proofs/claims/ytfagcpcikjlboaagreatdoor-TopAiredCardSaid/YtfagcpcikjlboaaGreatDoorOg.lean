/- Parts. -/
import Derived.Test.YtfagcpcikjlboaaGreatDoorOaG
set_option linter.all false
set_option maxRecDepth 100000
set_option maxHeartbeats 8000000
namespace Go.Proofs.YtfagcpcikjlboaaGreatDoor
open Go Go.RowKit Go.Proofs.Tryz

structure MixIn (w:World) (A:Option Addr) (n:Nat) (ls:List Lay) (mass:Int) (q:Nat):Prop where
 view:Lv w A n ls
 pos:0 < n
 le:n≤64
 lay:∀x∈ls,LayIn x
 qle:q≤18
 sz:∀x∈ls,∀p∈x.shares,Sz q (numQ p.2)
 chk:jar jyR ls=0
 mix:jAT (ls.getD 0 jyM).grain 0 ls=(mass,0)
theorem jz6 {α:Type} {l:List α} {i:Nat} {d:α} (h:i < l.length):l.getD i d∈l:=by
 rw [List.getD_eq_getElem?_getD,List.getElem?_eq_getElem h];exact List.getElem_mem h
section
variable {w:World} {A:Option Addr} {n q:Nat} {ls:List Lay} {mass:Int}
theorem MixIn.layer (h:MixIn w A n ls mass q) {i:Nat} (hi:i < n):(ls.getD i jyM)∈ls∧1≤(ls.getD i jyM).mass∧(ls.getD i jyM).mass≤999999999∧(ls.getD i jyM).shares.length≤64:=by
 have hm:=jz6 (d:=jyM) (show i < ls.length by rw [h.view.len];exact hi);have h1:=jyL (jyJ h.chk _ hm);exact ⟨hm,h1.2.1,h1.2.2.1,(jyQ h1.2.2.2).1.2⟩
theorem MixIn.share (h:MixIn w A n ls mass q) {x:Lay} (hx:x∈ls) {p:List UInt8×List UInt8} (hp:p∈x.shares):IsNum p.2 (numQ p.2)∧p.1.length≤maxLen∧Sz q (numQ p.2):=by
 have h1:=jyL (jyJ h.chk _ hx);have h2:=(jyQ h1.2.2.2).2 p hp;refine ⟨jjb h2.2.1, ?_,h.sz x hx p hp⟩;have:=h2.1;simp [jyU] at this;unfold maxLen;omega
theorem jzZ (h:MixIn w A n ls mass q) {x:Lay} (hx:x∈ls) {c:List UInt8×Rat} (hc:c∈jyP x.mass x.shares):Sz (q+1) c.2:=by
 unfold jyP at hc;obtain ⟨p,hp,rfl⟩:=List.mem_map.1 hc;have h1:=(h.share hx hp).2.2;have h2:=jyL (jyJ h.chk _ hx);exact h1.mul (jej ⟨by omega,by omega⟩)
theorem jAx (h:MixIn w A n ls mass q) {i:Nat} {c:List UInt8×Rat} (hc:c∈jyI (ls.take i)):Sz (q+1) c.2:=by
 unfold jyI at hc;obtain ⟨x,hx,hc⟩:=List.mem_flatMap.1 hc;exact jzZ h (List.mem_of_mem_take hx) hc
theorem jAG (h:MixIn w A n ls mass q) {y:List UInt8} (hy:jzj (jyI ls) y=true):y.length≤maxLen:=by
 unfold jzj at hy;obtain ⟨c,hc,he⟩:=List.any_eq_true.1 hy;have he':c.1=y:=by simpa using he
 unfold jyI at hc;obtain ⟨x,hx,hc⟩:=List.mem_flatMap.1 hc;unfold jyP at hc;obtain ⟨p,hp,rfl⟩:=List.mem_map.1 hc;have:=(h.share hx hp).2.1;rw [←he'];exact this
noncomputable def jzs (ls:List Lay) (i k:Nat):List (List UInt8×Rat):=jyI (ls.take i)++jyP (ls.getD i jyM).mass ((ls.getD i jyM).shares.take k)
theorem jAB (h:MixIn w A n ls mass q) {i k:Nat} (hi:i < n):(jzs ls i k).length≤4096:=by
 have h1:=jzf (ls:=ls.take i) (fun x hx=>by
  have:=jyL (jyJ h.chk _ (List.mem_of_mem_take hx))
  exact (jyQ this.2.2.2).1.2)
 have h2:=(h.layer hi).2.2.2;have h3:((ls.getD i jyM).shares.take k).length≤64:=by rw [List.length_take];omega
 have h4:(ls.take i).length≤63:=by have:=h.le;rw [List.length_take];omega
 unfold jzs;rw [List.length_append,jzm];omega
theorem jAi {cs:List (List UInt8×Rat)} (y:List UInt8) (hq:q≤18) (hl:cs.length≤4096) (hc:∀c∈cs,Sz (q+1) c.2):Sz 82000 (tot cs y):=by
 refine (jBQ y hc).mono ?_;have:cs.length*(q+1+1)≤4096*20:=Nat.mul_le_mul hl (by omega);omega
theorem jC7 (h:MixIn w A n ls mass q) {i k:Nat} (hi:i < n) (y:List UInt8):Sz 82000 (tot (jzs ls i k) y):=by
 refine jAi y h.qle (jAB h hi) (fun c hc=> ?_);rcases List.mem_append.1 hc with hc|hc
 ·exact jAx h hc
 ·have hm:=(h.layer hi).1;refine jzZ h hm ?_;unfold jyP at hc ⊢;obtain ⟨p,hp,e⟩:=List.mem_map.1 hc;exact List.mem_map.2 ⟨p,List.mem_of_mem_take hp,e⟩
theorem jCi (h:MixIn w A n ls mass q) (y:List UInt8):Sz 82000 (tot (jyI ls) y):=by
 refine jAi y h.qle ?_ (fun c hc=>jAx h (i:=ls.length) (by rwa [List.take_length]))
 have h1:=jzf (ls:=ls) (fun x hx=>by
  have:=jyL (jyJ h.chk _ hx)
  exact (jyQ this.2.2.2).1.2)
 have:=h.view.len;have:=h.le;omega
theorem jAd {i:Nat}:jzs ls i 0=jyI (ls.take i):=by unfold jzs;simp [jyP]
theorem jAy {i:Nat} (hi:i < ls.length):jzs ls i (ls.getD i jyM).shares.length=jyI (ls.take (i+1)):=by
 unfold jzs;rw [List.take_length];exact jAJ hi rfl
theorem jA4 {i k:Nat} {p:List UInt8×List UInt8} (hk:k < (ls.getD i jyM).shares.length) (hp:(ls.getD i jyM).shares.getD k ([],[])=p):jzs ls i k++[(p.1,numQ p.2*(((ls.getD i jyM).mass:Int):Rat))]=jzs ls i (k+1):=by
 unfold jzs;rw [List.append_assoc,jAo hk hp]
theorem jC5 (hE:Env w) (h:MixIn w A n ls mass q) {c:Nat}:Calls prog 153 #[.slice A n c] w fun e w'=>e= .returned (.tuple #[.int .i64 mass, .int .i64 0])∧Below w.heap.size w w':=by
 have:=jBU (c:=c) hE h.view h.pos h.le h.lay h.chk h.mix;exact this
theorem jyH {w:World} {a:Addr} {v:Value} (h:w.cell? a=some v) (o:Obj):(w.alloc o).cell? a=some v:=by
 rw [World.cell?_alloc_lt _ _ _ (World.block_lt_of_cell? _ _ h)];exact h
theorem jz4 {w:World} {b:Nat} (hb:b < w.heap.size) (h:∀o,w.frozen? ⟨b,o,none⟩=false) (x:Obj) (o:Nat):(w.alloc x).frozen? ⟨b,o,none⟩=false:=by
 rw [jyT (World.grownBy_alloc w x none) hb (by simp)];exact h o
theorem jzN {w:World} {base n:Nat} {v:Value} {ps:List (List UInt8×List UInt8)} (h:jzi w base v n ps):∀g,v.ownBlock=some g→base≤g:=fun g hg=>(World.ownsRow.lt h g hg).1
theorem jA9 {w w3:World} {g:List UInt8} {m:Int} {o:Obj} (h:Below ((w.alloc (.cells #[bs g, .int .i64 m, .slice none 0 0] 52)).alloc o).heap.size ((w.alloc (.cells #[bs g, .int .i64 m, .slice none 0 0] 52)).alloc o) w3):jhw w3 w.heap.size:=fun p z h1=>by
 rw [(jhL h).1 _ _ (by simp;omega)] at h1;rw [World.cell?_alloc_lt _ _ _ (by simp)] at h1;rcases p with _ | _ | _|p <;> simp at h1
theorem Lv.low {w w':World} {A:Option Addr} {n i:Nat} {ls:List Lay} (h:Lv w A n ls) (hi:i < n) (hb:Below w.heap.size w w'):∃b o B d,A=some ⟨b,o,none⟩∧w'.cell? ⟨b,o+i*3,none⟩=some (bs (ls.getD i jyM).grain)∧w'.cell? ⟨b,o+i*3+1,none⟩=some (.int .i64 (ls.getD i jyM).mass)∧w'.cell? ⟨b,o+i*3+2,none⟩=some (.slice B (ls.getD i jyM).shares.length d)∧Pv w B (ls.getD i jyM).shares.length (ls.getD i jyM).shares:=by
 obtain ⟨b,o,rfl,hbl,hat⟩:=h.at_ (by omega);obtain ⟨B,d,h1,h2,h3,h4⟩:=(hat i hi).at_;exact ⟨b,o,B,d,rfl,ja9 hb h1,ja9 hb h2,ja9 hb h3,h4⟩
end
section
variable {w:World} {A:Option Addr} {n c q:Nat} {ls:List Lay} {mass:Int} {ks:List (List UInt8)} {outs:List (List UInt8×List UInt8)} {g0:List UInt8}
set_option maxHeartbeats 16000000 in
theorem jCp (hE:Env w) (h:MixIn w A n ls mass q) (ho:Ordered ks) (hm:∀x,x∈ks↔jzj (jyI ls) x=true) (h0:0 < ks.length) (hg0:(ls.getD 0 jyM).grain=g0)
  (hol:outs.length=ks.length) (hout:ks.length≤64→∀j,j < ks.length→(outs.getD j ([],[])).1=ks.getD j []∧StrQ (tot (jyI ls) (ks.getD j []) / ((mass:Int):Rat))∧jcF (tot (jyI ls) (ks.getD j []) / ((mass:Int):Rat))=(outs.getD j ([],[])).2∧jbq (tot (jyI ls) (ks.getD j []) / ((mass:Int):Rat))=0):
  Calls prog 110 #[.slice A n c] w fun e w'=>(64 < ks.length∧e= .returned (.tuple #[.agg #[bs [], .int .i64 0, .slice none 0 0], .int .i64 5])∨ks.length≤64∧∃B d,e= .returned (.tuple #[.agg #[bs g0, .int .i64 mass, .slice B ks.length d], .int .i64 0])∧Pv w' B ks.length outs)∧Below w.heap.size w w':=by
 have HE:=qh hE;have HI:=qh h;have HN:=qh h.le;have H0:=qh h.pos;have HO:=qh ho;have HKM:=qh hm;have HK0:=qh h0;have HG0:=qh hg0;have HOL:=qh hol;have HOUT:=qh hout;have hmm:= @run_makeMap prog;clear hE h ho hm h0 hg0 hol hout;go_enter func110,ntmps110;go_wp2_with (go_at_call 153;(with_reducible refine mo1 w (jC5 (HE.o.below bi) ⟨HI.o.view.below bi,HI.o.pos,HI.o.le,HI.o.lay,HI.o.qle,HI.o.sz,HI.o.chk,HI.o.mix⟩) (by go_size) fun w1 hb1 hc1 hf1 z1_0 _=> ?_))
 have hlt:w.heap.size < w1.heap.size:=z1_0;obtain ⟨M,hM⟩:∃x,w1.heap.size=x:=⟨_,rfl⟩;have HQ0:=MapQ.made w1;simp only [hM] at HQ0 hlt ⊢;have hbM:Below w.heap.size w w1:=bi;have zM:(w1.alloc (.map #[] 0)).heap.size=M+1:=by rw [World.size_alloc,hM]
 go_loopw [31] (fun u wr=>∃(i:Nat) (D:DataW Value),u= .int .i64 (i:Int)∧i≤n∧Below w.heap.size w wr∧w.heap.size < wr.heap.size
  ∧wr.cell? ⟨w.heap.size,0,none⟩=some (bs [])∧wr.cell? ⟨w.heap.size,1,none⟩=some (.int .i64 0)∧wr.cell? ⟨w.heap.size,2,none⟩=some (.slice none 0 0)∧(∀o,wr.frozen? ⟨w.heap.size,o,none⟩=false)
  ∧MapQ wr M (jyI (ls.take i)).length D (jyI (ls.take i))) (fun u _=>n - (intOf u).toNat)
 case atStart=>exact ⟨0,_,rfl,Nat.zero_le _,bi,by rw [zM];omega,by simp [go_sem,hc1,z1_0],by simp [go_sem,hc1,z1_0],by simp [go_sem,hc1,z1_0],by intro o;simp [go_sem,hf1,z1_0],HQ0⟩
 case round=>
  obtain ⟨i,D,rfl,hin,hb,hsz,e0,e1,e2,f0,hq⟩:=hrel;have _:=bm hb;have HQ:=qh hq;clear hq HQ0 hc1 hf1 zM hb1 hmm;by_cases hi:i < n
  ·have p0:decide (i < n)=true:=by simpa using hi
   have hnn:=HN.o;obtain ⟨b,o,B,d,rfl,k0,k1,k2,kp⟩:=HI.o.view.low hi hb;have HP:=qh kp;have HL:=qh (HI.o.layer hi);have HII:=qh hi;obtain ⟨g,hg⟩:∃x,(ls.getD i jyM).grain=x:=⟨_,rfl⟩;obtain ⟨m,hm⟩:∃x,(ls.getD i jyM).mass=x:=⟨_,rfl⟩;obtain ⟨l,hl⟩:∃x,(ls.getD i jyM).shares.length=x:=⟨_,rfl⟩;have HMM:=qh hm;have HLL:=qh hl;rw [hg] at k0;rw [hm] at k1 HL;rw [hl] at k2 HL HP;clear hg hm hl kp hi;go_wp2;obtain ⟨B8,hB8⟩:∃x,wr.heap.size=x:=⟨_,rfl⟩;have HQ8:Hd (MapQ (wr.alloc (.cells #[bs g, .int .i64 m, .slice B l d] 52)) M (jzs ls i 0).length D (jzs ls i 0)):=qh (by rw [jAd];exact HQ.o.below bi);have hM8:M < B8:=by rw [←hB8];exact HQ.o.lt
   have hsz8:w.heap.size < B8:=by rw [←hB8];exact hsz
   have hne8:=nl hsz8;have z8:(wr.alloc (.cells #[bs g, .int .i64 m, .slice B l d] 52)).heap.size=B8+1:=by rw [World.size_alloc,hB8]
   have s8:(wr.alloc (.cells #[bs g, .int .i64 m, .slice B l d] 52)).cell? ⟨B8,1,none⟩=some (.int .i64 m):=by rw [←hB8];simp
   simp only [hB8]
   go_loopw [38] (fun u wx=>∃(k:Nat) (D:DataW Value),u= .int .i64 (k:Int)∧k≤l∧Below w.heap.size w wx∧B8 < wx.heap.size
    ∧wx.cell? ⟨w.heap.size,0,none⟩=some (bs [])∧wx.cell? ⟨w.heap.size,1,none⟩=some (.int .i64 0)∧wx.cell? ⟨w.heap.size,2,none⟩=some (.slice none 0 0)∧(∀o,wx.frozen? ⟨w.heap.size,o,none⟩=false)
    ∧wx.cell? ⟨B8,1,none⟩=some (.int .i64 m)∧MapQ wx M (jzs ls i k).length D (jzs ls i k)) (fun u _=>l - (intOf u).toNat)
   case atStart=>exact ⟨0,D,rfl,Nat.zero_le _,bi,by rw [z8];omega,jyH e0 _,jyH e1 _,jyH e2 _,fun o=>jz4 hsz f0 _ o,s8,HQ8.o⟩
   case round=>
    obtain ⟨k,D,rfl,hkl,hb2,hsz2,r0,r1,r2,rf,t8,hq⟩:=hrel;have _:=bm hb2;have HQ:=qh hq;clear hq HQ8 z8 s8 k0 k1 k2 hb e0 e1 e2 f0;by_cases hk:k < l
    ·have p1:decide (k < l)=true:=by simpa using hk
     have hii:=HII.o;have HKK:=qh hk;have hl64:=HL.o.2.2.2;obtain ⟨b',o',rfl,hbl',hcell⟩:=(HP.o.below hb2).at_ (by omega);obtain ⟨hx,hy⟩:=hcell k hk;have hmem:((ls.getD i jyM).shares.getD k ([],[]))∈(ls.getD i jyM).shares:=jz6 (by rw [HLL.o];exact hk);have HSH:=qh (HI.o.share (HI.o.layer hii).1 hmem);have HST:=qh (jA4 (k:=k) (p:=(ls.getD i jyM).shares.getD k ([],[])) (by rw [HLL.o];exact hk) rfl);rw [HMM.o] at HST;obtain ⟨x1,hx1⟩:∃x,((ls.getD i jyM).shares.getD k ([],[])).1=x:=⟨_,rfl⟩;obtain ⟨x2,hx2⟩:∃x,((ls.getD i jyM).shares.getD k ([],[])).2=x:=⟨_,rfl⟩;obtain ⟨v,hv⟩:∃v,numQ ((ls.getD i jyM).shares.getD k ([],[])).2=v:=⟨_,rfl⟩;rw [hv] at HSH HST;rw [hx1] at hx HSH HST;rw [hx2] at hy HSH;have HT:=qh (jC7 HI.o (k:=k) hii x1);have HCL:=qh (jAB HI.o (k:=k) hii);obtain ⟨cs,hcs⟩:∃c,jzs ls i k=c:=⟨_,rfl⟩;rw [hcs] at HST HT HCL HQ;have HSM:Hd (SmallQ ((m:Int):Rat)):=qh (jzw (by have:=HL.o;omega) (by have:=HL.o;omega));obtain ⟨z,hz⟩:∃z,v*((m:Int):Rat)=z:=⟨_,rfl⟩;have HZ:=qh hz;rw [hz] at HST;clear hcell hmem hx1 hx2 hv hcs hz hk;go_upto_region 11 with (fail)
     go_cut [11] (fun u wx=>∃b11,u= .pointer (some ⟨b11,0,none⟩)∧wr.heap.size < b11∧b11 < wx.heap.size∧Below (wr.alloc (.cells #[bs x1,bs x2] 49)).heap.size (wr.alloc (.cells #[bs x1,bs x2] 49)) wx∧(∀o,wx.frozen? ⟨b11,o,none⟩=false)∧FAt wx b11 0 z)
     case first=>
      refine ja1 (fun w'=>Below (wr.alloc (.cells #[bs x1,bs x2] 49)).heap.size (wr.alloc (.cells #[bs x1,bs x2] 49)) w') [8] (by kernel_rfl) ?_;refine tl [(0,[1], .pointer (some ⟨wr.heap.size,1,none⟩)),(1,[2],bs x2),(3,[4], .pointer (some ⟨B8,1,none⟩)),(4,[5], .int .i64 m)] [_,_,_,_] rfl (by kernel_rfl) pk5 (by intros;simp only [tyq,ppq];go_simp) bq0 ?_;simp only [tlq,ppq];refine wa2 2 7 (by kernel_rfl) rfl rfl (fun K hK=> ?o1) (fun K hK=> ?o2)
      case' o1=>
       go_simp;go_wp2_with ((go_at_call 51;(with_reducible refine mf0 (jaz HSH.o.1 (HE.o.below bi)) fun w2x s2x A2x n2x c2x t2x B2x m2x d2x hr2x hq2x hb2x hc2x hf2x _=> ?_));(first|have hy2x_0:=szl (k:=wr.heap.size+1) hb2x (by first|go_size|fail)|have hy2x_0:=Nat.one_pos))
       refine hK.out _ _ (fun _=>bi) ?_;clear hK K;refine wa2 5 7 (by kernel_rfl) rfl rfl (fun K hK=> ?o3) (fun K hK=> ?o4)
       case' o3=>
        go_simp;go_wp2_with ((go_at_call 67;(with_reducible refine mo0 (jzd HSM.o) fun w3x hb3x hc3x hf3x _=> ?_));(first|have hy3x_0:=szl (k:=wr.heap.size+1) hb3x (by first|go_size|fail)|have hy3x_0:=Nat.one_pos);(first|have hy3x_1:=szl (k:=w2x.heap.size) hb3x (by first|go_size|fail)|have hy3x_1:=Nat.one_pos))
        refine hK.out _ _ (fun _=>bi) ?_;clear hK K;refine wa2 6 7 (by kernel_rfl) rfl rfl (fun K hK=> ?o5) (fun K hK=> ?o6)
        case' o5=>
         go_simp;go_wp2_with ((go_at_call 33;(with_reducible refine mf0 (jbO q 1 HZ.o (RepF.below ⟨hr2x,hq2x⟩ bi) (HSM.o.rep _) HSH.o.2.2 HSM.o.sz (by have:=HI.o.qle;omega)) fun w4x s4x A4x n4x c4x t4x B4x m4x d4x hr4x hq4x hb4x hc4x hf4x _=> ?_));(first|have hy4x_0:=szl (k:=wr.heap.size+1) hb4x (by first|go_size|fail)|have hy4x_0:=Nat.one_pos);(first|have hy4x_1:=szl (k:=w2x.heap.size) hb4x (by first|go_size|fail)|have hy4x_1:=Nat.one_pos);(first|have hy4x_2:=szl (k:=w3x.heap.size) hb4x (by first|go_size|fail)|have hy4x_2:=Nat.one_pos))
         refine hK.out _ _ (fun _=>bi) ?_;clear hK K;refine wa1 7 (by kernel_rfl) rfl (fun K hK=> ?_);go_simp;refine hK.out _ _ (fun _=>bi) ?_;clear hK K
        case' o6=>
         go_simp;refine hK.out _ _ (fun _=>bi) ?_;clear hK K;refine wa1 6 (by kernel_rfl) rfl (fun K hK=> ?_);go_simp;go_wp2_with ((go_at_call 33;(with_reducible refine mf0 (jbO q 1 HZ.o (RepF.below ⟨hr2x,hq2x⟩ bi) (HSM.o.rep _) HSH.o.2.2 HSM.o.sz (by have:=HI.o.qle;omega)) fun w4x s4x A4x n4x c4x t4x B4x m4x d4x hr4x hq4x hb4x hc4x hf4x _=> ?_));(first|have hy4x_0:=szl (k:=wr.heap.size+1) hb4x (by first|go_size|fail)|have hy4x_0:=Nat.one_pos);(first|have hy4x_1:=szl (k:=w2x.heap.size) hb4x (by first|go_size|fail)|have hy4x_1:=Nat.one_pos);(first|have hy4x_2:=szl (k:=w3x.heap.size) hb4x (by first|go_size|fail)|have hy4x_2:=Nat.one_pos))
         refine hK.out _ _ (fun _=>bi) ?_;clear hK K
       case' o4=>
        go_simp;refine hK.out _ _ (fun _=>bi) ?_;clear hK K;refine wa1 5 (by kernel_rfl) rfl (fun K hK=> ?_);go_simp;go_wp2_with ((go_at_call 67;(with_reducible refine mo0 (jzd HSM.o) fun w3x hb3x hc3x hf3x _=> ?_));(first|have hy3x_0:=szl (k:=wr.heap.size+1) hb3x (by first|go_size|fail)|have hy3x_0:=Nat.one_pos);(first|have hy3x_1:=szl (k:=w2x.heap.size) hb3x (by first|go_size|fail)|have hy3x_1:=Nat.one_pos))
        refine hK.out _ _ (fun _=>bi) ?_;clear hK K;refine wa1 6 (by kernel_rfl) rfl (fun K hK=> ?_);go_simp;go_wp2_with ((go_at_call 33;(with_reducible refine mf0 (jbO q 1 HZ.o (RepF.below ⟨hr2x,hq2x⟩ bi) (HSM.o.rep _) HSH.o.2.2 HSM.o.sz (by have:=HI.o.qle;omega)) fun w4x s4x A4x n4x c4x t4x B4x m4x d4x hr4x hq4x hb4x hc4x hf4x _=> ?_));(first|have hy4x_0:=szl (k:=wr.heap.size+1) hb4x (by first|go_size|fail)|have hy4x_0:=Nat.one_pos);(first|have hy4x_1:=szl (k:=w2x.heap.size) hb4x (by first|go_size|fail)|have hy4x_1:=Nat.one_pos);(first|have hy4x_2:=szl (k:=w3x.heap.size) hb4x (by first|go_size|fail)|have hy4x_2:=Nat.one_pos))
        refine hK.out _ _ (fun _=>bi) ?_;clear hK K
      case' o2=>
       go_simp;refine hK.out _ _ (fun _=>bi) ?_;clear hK K;refine wa1 2 (by kernel_rfl) rfl (fun K hK=> ?_);go_simp;go_wp2_with ((go_at_call 51;(with_reducible refine mf0 (jaz HSH.o.1 (HE.o.below bi)) fun w2x s2x A2x n2x c2x t2x B2x m2x d2x hr2x hq2x hb2x hc2x hf2x _=> ?_));(first|have hy2x_0:=szl (k:=wr.heap.size+1) hb2x (by first|go_size|fail)|have hy2x_0:=Nat.one_pos))
       refine hK.out _ _ (fun _=>bi) ?_;clear hK K;refine wa1 5 (by kernel_rfl) rfl (fun K hK=> ?_);go_simp;go_wp2_with ((go_at_call 67;(with_reducible refine mo0 (jzd HSM.o) fun w3x hb3x hc3x hf3x _=> ?_));(first|have hy3x_0:=szl (k:=wr.heap.size+1) hb3x (by first|go_size|fail)|have hy3x_0:=Nat.one_pos);(first|have hy3x_1:=szl (k:=w2x.heap.size) hb3x (by first|go_size|fail)|have hy3x_1:=Nat.one_pos))
       refine hK.out _ _ (fun _=>bi) ?_;clear hK K;refine wa1 6 (by kernel_rfl) rfl (fun K hK=> ?_);go_simp;go_wp2_with ((go_at_call 33;(with_reducible refine mf0 (jbO q 1 HZ.o (RepF.below ⟨hr2x,hq2x⟩ bi) (HSM.o.rep _) HSH.o.2.2 HSM.o.sz (by have:=HI.o.qle;omega)) fun w4x s4x A4x n4x c4x t4x B4x m4x d4x hr4x hq4x hb4x hc4x hf4x _=> ?_));(first|have hy4x_0:=szl (k:=wr.heap.size+1) hb4x (by first|go_size|fail)|have hy4x_0:=Nat.one_pos);(first|have hy4x_1:=szl (k:=w2x.heap.size) hb4x (by first|go_size|fail)|have hy4x_1:=Nat.one_pos);(first|have hy4x_2:=szl (k:=w3x.heap.size) hb4x (by first|go_size|fail)|have hy4x_2:=Nat.one_pos))
       refine hK.out _ _ (fun _=>bi) ?_;clear hK K
      all_goals
       have g2:=hb2x.size;have g3:=hb3x.size;have g4:=hb4x.size
       (try simp at g2 g3 g4)
       refine rd1 8 (by kernel_rfl) rfl (fun K hK=> ?_);go_simp;refine hK.out _ _ (fun h=>(h (by decide)).elim) ?_;clear hK K;refine ja2 (by kernel_rfl) ?_ _;go_wp2_with (fail)
       go_meet;refine ⟨_,rfl,(by (try simp);(try omega)),(by (try simp);(try omega)),(by with_reducible repeat first|exact bR|assumption|apply bA|apply bD|apply bN|refine bC ?_ (by go_size)|refine bS ?_ ‹_›), ?_,⟨⟨s4x,A4x,n4x,c4x,t4x,B4x,m4x,d4x, ?_, ?_, ?_, ?_,⟨?_, ?_⟩⟩⟩⟩
       all_goals (first
        | (intro o;simp [go_sem,hc2x,hc3x,hc4x,hf2x,hf3x,hf4x,jxf,hy2x_0,hy3x_0,hy3x_1,hy4x_0,hy4x_1,hy4x_2,nls hy2x_0,nls hy3x_0,nls hy3x_1];done)
        | (simp [go_sem,hc2x,hc3x,hc4x,hf2x,hf3x,hf4x,jxf,hy2x_0,hy3x_0,hy3x_1,hy4x_0,hy4x_1,hy4x_2,nls hy2x_0,nls hy3x_0,nls hy3x_1];done)
        | exact (by with_reducible repeat first|assumption|apply rZ|refine rP ?_ rfl (by simp [go_sem,hc2x,hc3x,hc4x,jxf,hy2x_0,hy3x_0,hy3x_1,hy4x_0,hy4x_1,hy4x_2,nls hy2x_0,nls hy3x_0,nls hy3x_1])))
     case rest=>
      obtain ⟨b11,rfl,h11a,h11b,hbc,hf11,hat11⟩:=hcut;have _:=bm hbc;obtain ⟨s6,A6,n6,c6,t6,B6,m6,d6,j0,j1,j2,j3,hr6⟩:=hat11.at_;simp only [Nat.zero_add] at j0 j1 j2 j3;have HR6:=qh hr6;have hbw:Below wr.heap.size wr wc:=ja0 (ja5 (Below.refl _ _) _) hbc;have hbW:Below w.heap.size w wc:=ja0 hb2 hbw;have y0:wc.cell? ⟨wr.heap.size,0,none⟩=some (bs x1):=ja9 hbc (by simp);have hszr:w.heap.size < wr.heap.size:=Nat.lt_trans hsz8 hsz2;have hz10:wr.heap.size < wc.heap.size:=Nat.lt_trans h11a h11b;replace r0:=ja9 hbw r0;replace r1:=ja9 hbw r1;replace r2:=ja9 hbw r2;replace t8:=ja9 hbw t8;replace rf:=fun o=>jz0 hbw hszr rf o
      have HQw:=HQ;have h11w:wr.heap.size≤b11:=Nat.le_of_lt h11a;have h11r:w.heap.size < b11:=Nat.lt_trans hszr h11a;have _:=Sx.mk h11w;have _:=Sx.mk (Nat.le_of_lt h11r);have h118:B8 < b11:=Nat.lt_trans hsz2 h11a;replace HQ:=qh (HQ.o.below hbw);replace hsz2:=Nat.lt_trans hsz2 hz10;replace hszr:=Nat.lt_trans hszr hz10;obtain ⟨B10,hB10⟩:∃x,wr.heap.size=x:=⟨_,rfl⟩;rw [hB10] at y0 h11a hz10;simp only [hB10];clear hat11 hr6 hbc hb2 hB10;have HXL:=qh HSH.o.2.1;cases hh:jzj cs x1 with
      | false=>
        have HH:=qh hh
        have HIF:Hd (∀W,Below wc.heap.size wc W→IsF W (fv s6 A6 n6 c6 t6 B6 m6 d6) (z+tot cs x1)):=qh (fun W hb=>by
         rw [jzM hh,Rat.add_zero]
         exact ⟨s6,A6,n6,c6,t6,B6,m6,d6,rfl,HR6.o.below hb⟩)
        clear hh
        go_wp2_with (first
         | (at_lookup;refine jAC HQ.o HXL.o HH.o rfl _ _ rfl rfl rfl ?_)
         | (at_mapUpdate;refine jzq (q:=z) (HQ.o.below bi) (Nat.lt_of_le_of_lt HCL.o (by omega)) HXL.o (HIF.o _ bi) rfl _ _ _ rfl rfl rfl rfl ?_;intro w5 D5 hmq5 hg5))
        have hBx:Below w.heap.size w (wc.alloc (.cells #[.int .i64 0, .slice none 0 0, .int .i64 0, .slice none 0 0] 70)):=ja5 hbW _;have hsx:w.heap.size < (wc.alloc (.cells #[.int .i64 0, .slice none 0 0, .int .i64 0, .slice none 0 0] 70)).heap.size:=by rw [World.size_alloc];omega
        exact ⟨⟨k+1,D5,by simp,HKK.o,Below.trans hBx (jab hg5 (Nat.le_of_lt hsx) (fun j hj=>by cases hj;exact Nat.le_of_lt hlt)),Nat.lt_of_lt_of_le (by rw [World.size_alloc];omega) hg5.size,
         hg5.cell (jyH r0 _) (by simp;omega),hg5.cell (jyH r1 _) (by simp;omega),hg5.cell (jyH r2 _) (by simp;omega),fun o=>(jyT hg5 hsx (by simp;omega)).trans (jz4 hszr rf _ o),hg5.cell (jyH t8 _) (by simp;omega),
         by rw [←HST.o,List.length_append];exact hmq5⟩,by have:=HKK.o;simp [intOf];omega⟩
      | true=>
        have HH:=qh hh;obtain ⟨v0,hv0,s9,A9,n9,c9,t9,B9,m9,d9,rfl,hr9⟩:=HQ.o.val x1 hh;have HAT:=qh hv0;have HR9:=qh hr9;clear hh hv0 hr9
        go_wp2_with (first
         | (at_lookup;refine jzF HQ.o HXL.o HH.o HAT.o rfl _ _ rfl rfl rfl ?_)
         | ((go_at_call 114;(with_reducible refine mf0 (jo7 (q+1) 82000 rfl (HR6.o.below bi) (HR9.o.below bi) (by rw [←HZ.o];exact HSH.o.2.2.mul HSM.o.sz) HT.o (by have:=HI.o.qle;omega)) fun w7 s7 A7 n7 c7 t7 B7 m7 d7 hr7 hq7 hb7 hc7 hf7 _=> ?_));(have bW7:Below wc.heap.size wc w7:=bi);have k70:=ja9 bW7 j0;have k71:=ja9 bW7 j1;have k72:=ja9 bW7 j2;have k73:=ja9 bW7 j3;have y7:=ja9 bW7 y0;have kf7:(∀o,w7.frozen? ⟨b11,o,none⟩=false):=fun o=>jz0 bW7 h11b hf11 o;have z7:=Nat.lt_of_lt_of_le h11b bW7.size)
         | (at_mapUpdate;refine jzq (q:=z) (HQw.o.below bi) (Nat.lt_of_le_of_lt HCL.o (by omega)) HXL.o ⟨s7,A7,n7,c7,t7,B7,m7,d7,rfl,(by constructor <;> (with_reducible repeat first|assumption|apply rZ|refine rP ?_ rfl (by simp [go_sem,k70,k71,k72,k73])))⟩ rfl _ _ _ rfl rfl rfl rfl ?_;intro w5 D5 hmq5 hg5))
        have bW7:Below wc.heap.size wc w7:=bi;have q0:=ja9 bW7 r0;have q1:=ja9 bW7 r1;have q2:=ja9 bW7 r2;have q8:=ja9 bW7 t8;have qf:∀o,w7.frozen? ⟨w.heap.size,o,none⟩=false:=fun o=>jz0 bW7 hszr rf o
        have zr7:=Nat.lt_of_lt_of_le hszr bW7.size;have z87:=Nat.lt_of_lt_of_le hsz2 bW7.size;have ne1:=nl h11r;have ne2:=nl h118;have le1:=Nat.le_of_lt h11r;have hBx:Below w.heap.size w ((((w7.setCell ⟨b11,0,none⟩ (.int .i64 s7)).setCell ⟨b11,1,none⟩ (.slice A7 n7 c7)).setCell ⟨b11,2,none⟩ (.int .i64 t7)).setCell ⟨b11,3,none⟩ (.slice B7 m7 d7)):=bi
        exact ⟨⟨k+1,D5,by simp,HKK.o,Below.trans hBx (jab hg5 (by simp;omega) (fun j hj=>by cases hj;exact Nat.le_of_lt hlt)),Nat.lt_of_lt_of_le (by simp;exact z87) hg5.size,
         hg5.cell (by simp [go_sem,q0,ne1]) (by simp;omega),hg5.cell (by simp [go_sem,q1,ne1]) (by simp;omega),hg5.cell (by simp [go_sem,q2,ne1]) (by simp;omega),fun o=>(jyT hg5 (by simp;exact zr7) (by simp;omega)).trans (by simp [go_sem,qf]),hg5.cell (by simp [go_sem,q8,ne2]) (by simp;omega),
         by rw [←HST.o,List.length_append];exact hmq5⟩,by have:=HKK.o;simp [intOf];omega⟩
    ·have p1:decide (k < l)=false:=by simp;omega
     have hkl':k=l:=by omega
     have HEND:=qh (jAy (ls:=ls) (i:=i) (by rw [HI.o.view.len];exact HII.o));rw [HLL.o] at HEND;subst hkl';clear hk;go_wp2
     go_roundw
     case rel=>exact ⟨i+1,D,by simp,HII.o,hb2,by omega,r0,r1,r2,rf,by rw [←HEND.o];exact HQ.o⟩
     case measure=>have:=HII.o;simp [intOf];omega
  ·have p0:decide (i < n)=false:=by simp;omega
   have e:i=n:=by omega
   subst e;have hq:=HQ.o;rw [List.take_of_length_le (by rw [HI.o.view.len];omega)] at hq;replace HQ:=qh hq;obtain ⟨b,o,B,d,rfl,k0,k1,k2,_⟩:=HI.o.view.low H0.o hb;rw [Nat.zero_mul,Nat.add_zero] at k0 k1 k2;rw [HG0.o] at k0;have HTOT:Hd (∀y,Sz 82000 (tot (jyI ls) y)):=qh (fun y=>jCi HI.o y)
   have HMB:Hd (0 < mass∧mass≤999999999):=qh (by
    have:=jB2 (fun x hx=>(jyL (jyJ HI.o.chk x hx)).2.1) HI.o.mix;have h1:=HI.o.view.len;have h2:=HI.o.pos
    omega)
   have HYS:Hd (∀y∈ks,y.length≤maxLen):=qh (fun y hy=>jAG HI.o ((HKM.o y).1 hy));obtain ⟨cs,hcs⟩:∃c,jyI ls=c:=⟨_,rfl⟩;rw [hcs] at HQ HTOT HKM HOUT;have HLT:Hd (M < wr.heap.size):=qh HQ.o.lt;have hk0:=HK0.o;have hk00:=H0.o;clear hcs hq hi hin HI HG0;by_cases hkl:64 < ks.length
   ·have q2:decide ((64:Int) < (ks.length:Int))=true:=by rw [decide_eq_true_iff];omega
    have hks:=qh hkl;clear hkl hk0 hk00 k0 k1 k2;go_wp2_with (at_len;refine jBP HQ.o HO.o HKM.o rfl _ rfl rfl ?_)
    exact bodyPost_ret (v:= .tuple #[.agg #[bs [], .int .i64 0, .slice none 0 0], .int .i64 5]) (by simp [results,results110,go_sem,e0,e1,e2,f0]) rfl ⟨.inl ⟨hks.out,rfl⟩,bi⟩
   replace hkl:=Nat.le_of_not_lt hkl;have HKL:=qh hkl;replace HOUT:=qh (HOUT.o hkl);have q2:decide ((64:Int) < (ks.length:Int))=false:=by rw [decide_eq_false_iff_not];omega
   go_wp2_with (first
    | (at_len;refine jBP HQ.o HO.o HKM.o rfl _ rfl rfl ?_)
    | (go_at_call 155;((with_reducible refine (jB3 _ _).mono ?_);rintro e2 w2 ⟨rfl,rfl⟩))
    | (go_at_call 154;((with_reducible refine (jAg (HQ.o.below bi) HO.o HKM.o HK0.o (by omega) (by simp)).mono ?_);rintro e3 w3 ⟨g3,c3,rfl,hg3,hz3,hcell3,hb3⟩;have _:=bm hb3)))
   have hbwr:Below wr.heap.size wr w3:=ja0 (ja5 (ja5 (Below.refl _ _) _) _) hb3;have hbw3:Below w.heap.size w w3:=ja0 hb hbwr;have c0:w3.cell? ⟨wr.heap.size,0,none⟩=some (bs g0):=ja9 hb3 (by simp);have c1:w3.cell? ⟨wr.heap.size,1,none⟩=some (.int .i64 mass):=ja9 hb3 (by simp);have c2:w3.cell? ⟨wr.heap.size,2,none⟩=some (.slice none 0 0):=ja9 hb3 (by simp);have cf:∀o,w3.frozen? ⟨wr.heap.size,o,none⟩=false:=fun o=>jz0 hb3 (by simp;omega) (fun o=>by simp [go_sem]) o
   have hNL:jhw w3 wr.heap.size:=jA9 hb3;have r0:=ja9 hbwr e0;have r1:=ja9 hbwr e1;have r2:=ja9 hbwr e2;have rf:=fun o=>jz0 hbwr hsz f0 o
   have HQ3:=qh (HQ.o.below hbwr);have hz14:wr.heap.size < w3.heap.size:=by have:=hb3.size;simp at this;omega
   have hM14:=HLT.o;have HN14:=qh hNL;obtain ⟨B14,hB14⟩:∃x,wr.heap.size=x:=⟨_,rfl⟩;rw [hB14] at c0 c1 c2 cf HN14 hsz hg3 hz14 hM14;simp only [hB14];clear hb hb3 hbwr e0 e1 e2 f0 HQ hNL HLT hB14 k0 k1 k2
   go_loopw [80] (fun u wx=>∃(j:Nat) (Ao:Option Addr) (co:Nat),u= .int .i64 (j:Int)∧j≤ks.length∧w3.grownBy wx (some B14)∧wx.cell? ⟨B14,0,none⟩=some (bs g0)∧wx.cell? ⟨B14,1,none⟩=some (.int .i64 mass)∧wx.cell? ⟨B14,2,none⟩=some (.slice Ao j co)∧(∀o,wx.frozen? ⟨B14,o,none⟩=false)
    ∧jzi wx w3.heap.size (.slice Ao j co) j (outs.take j)) (fun u _=>ks.length - (intOf u).toNat)
   case atStart=>exact ⟨0,none,0,rfl,Nat.zero_le _,⟨rfl,rfl,rfl,Nat.le_refl _,fun _ _ _=>rfl⟩,c0,c1,c2,cf,World.ownsRow_nil _ _ _ _⟩
   case round=>
    obtain ⟨j,Ao,co,rfl,hjl,hg,d0,d1,d2,df,how⟩:=hrel;have HOW:=qh how;have hbx:Below w.heap.size w wr:=Below.trans hbw3 (jab hg hbw3.size (fun k hk=>by cases hk;exact Nat.le_of_lt hsz));have hzx:B14 < wr.heap.size:=Nat.lt_of_lt_of_le hz14 hg.size;clear how;by_cases hj:j < ks.length
    ·have p1:decide (j < ks.length)=true:=by simpa using hj
     have HJ:=qh hj;have HQx:=qh (HQ3.o.grown HN14.o (nl hM14) hg);have hkey:=hg.cell (hcell3 j hj) (by simp;omega);obtain ⟨o1,o2,o3,o4⟩:=HOUT.o j hj;have hyk:ks.getD j []∈ks:=jz6 hj;have HT:=qh (HTOT.o (ks.getD j []))
     have HPR:Hd (outs.take j++[((ks.getD j []),(outs.getD j ([],[])).2)]=outs.take (j+1)):=qh (by
      rw [jzQ (l:=outs) (i:=j) (d:=([],[])) (r:=(ks.getD j [],(outs.getD j ([],[])).2)) (by rw [HOL.o];exact hj) (by rw [←o1])])
     obtain ⟨y,hy⟩:∃y,ks.getD j []=y:=⟨_,rfl⟩;obtain ⟨tx,htx⟩:∃t,(outs.getD j ([],[])).2=t:=⟨_,rfl⟩;rw [hy] at hkey o2 o3 o4 hyk HT HPR;rw [htx] at o3 HPR;obtain ⟨v0,hv0,s9,A9,n9,c9,t9,B9,m9,d9,rfl,hr9⟩:=HQx.o.val y ((HKM.o y).1 hyk);have HAT:=qh hv0;have HR9:=qh hr9;obtain ⟨z,hz⟩:∃z,tot cs y / ((mass:Int):Rat)=z:=⟨_,rfl⟩;rw [hz] at o2 o3 o4;have HZ:=qh hz;have HSQ:=qh o2;have HGT:=qh o3;have HGE:=qh o4;have HSM:Hd (SmallQ ((mass:Int):Rat)):=qh (jzw (by have:=HMB.o;omega) (by have:=HMB.o;omega));have HM0:Hd (((mass:Int):Rat)≠0):=qh (by have:=HMB.o.1;simp;omega);have HYL:Hd (y.length≤maxLen):=qh (HYS.o y hyk);clear o1 o2 o3 o4 hyk hy htx hv0 hr9 hz hj;go_upto_region 24 with (fail)
     refine ja1 (fun w'=>Below wr.heap.size wr w') [] (by kernel_rfl) ?_;refine tl [(0,[], .map (some M)),(1,[],bs y)] [_,_] rfl (by kernel_rfl) pk5 (by intros;simp only [tyq,ppq];go_simp) bq0 ?_;simp only [tlq,ppq];refine jaw [] (i:=2) (v:=fv s9 A9 n9 c9 t9 B9 m9 d9) rfl (by kernel_rfl) (by kernel_rfl) (by kernel_rfl) (by kernel_rfl) (by kernel_rfl) (fun _ _ _ h=>h) (Or.inl ⟨by rfl,fun w' hS'=>jBg (HQx.o.below hS') HYL.o HAT.o (.tmp 85) (.tmp 86) rfl rfl rfl⟩) bi ?_;simp only [ppq];refine tb 3 (.int .i64 mass) [] rfl (by kernel_rfl) pk rfl (by intros;go_simp) bq0 ?_;simp only [ppq];refine rd1 4 (by kernel_rfl) rfl (fun K hK=> ?_);go_simp;go_wp2_with (go_at_call 67;(with_reducible refine mo0 (jzd HSM.o) fun w4 hb4 hc4 hf4 _=> ?_))
     have sS4:=qh (bst bq0 hb4);refine hK.out _ _ (fun _=>sS4.o) ?_;clear hK K;refine rd1 5 (by kernel_rfl) rfl (fun K hK=> ?_);go_simp;go_wp2_with (go_at_call 95;(with_reducible refine mf0 (jeB 82000 1 HZ.o (HR9.o.below bi) (HSM.o.rep _) HT.o HSM.o.sz (by omega) HM0.o) fun w5 s5 A5 n5 c5 t5 B5 m5 d5 hr5 hq5 hb5 hc5 hf5 _=> ?_))
     have sS5:=qh (bst sS4.o hb5);refine hK.out _ _ (fun _=>sS5.o) ?_;clear hK K;refine rd1 6 (by kernel_rfl) rfl (fun K hK=> ?_);go_simp;go_wp2_with (go_at_call 156;(with_reducible refine mo0 (jAX HGT.o HGE.o ⟨hr5,hq5⟩ (HE.o.below (by with_reducible repeat first|exact bR|assumption|apply bA|apply bD|apply bN|refine bC ?_ (by go_size)|refine bS ?_ ‹_›)) HSQ.o) fun w6 hb6 hc6 hf6 _=> ?_))
     have sS6:=qh (bst sS5.o hb6);refine hK.out _ _ (fun _=>sS6.o) ?_;clear hK K;refine tl [(7,[], .tuple #[bs tx, .int .i64 0]),(8,[],bs tx),(9,[], .int .i64 0)] [_,_,_] rfl (by kernel_rfl) pk5 (by intros;simp only [tyq,ppq];go_simp) sS6.o ?_;simp only [tlq,ppq];refine rd1 10 (by kernel_rfl) rfl (fun K hK=> ?_);go_simp;refine hK.out _ _ (fun _=>bi) ?_;clear hK K;refine rd1 11 (by kernel_rfl) rfl (fun K hK=> ?_);go_simp;refine hK.out _ _ (fun _=>bi) ?_;clear hK K;refine ja2 (by kernel_rfl) ?_ _;have bW6:Below wr.heap.size wr w6:=bi;have k0:=ja9 bW6 d0;have k1:=ja9 bW6 d1;have k2:=ja9 bW6 d2;have kf:=fun o=>jz0 bW6 hzx df o
     have hz6:=Nat.lt_of_lt_of_le hzx bW6.size;have hg6:w3.grownBy (w6.alloc (.cells #[bs y,bs tx] 49)) (some B14):=(hg.trans (je8 bW6 _)).trans (World.grownBy_alloc _ _ _);have hne14:some B14≠(Value.slice Ao j co).ownBlock:=fun e=>by have:=jzN HOW.o _ e.symm;omega
     go_wp2_with (at_builtin;refine jza (x:=(y,tx)) rfl _ _ rfl rfl rfl rfl (HOW.o.below (ja5 bW6 _)) (by have:=HKL.o;have:=HJ.o;omega) hg6.size (by simp) (by simp) ?_;intro A7 c7 w7 ho7 hg7 hl7;have q0:=hg7.cell (jyH k0 _) hne14;have q1:=hg7.cell (jyH k1 _) hne14;have q2:=hg7.cell (jyH k2 _) hne14;have qf:(∀o,w7.frozen? ⟨B14,o,none⟩=false):=fun o=>(jyT hg7 (by rw [World.size_alloc];omega) hne14).trans (jz4 hz6 kf _ o))
     have hne7:some B14≠(Value.slice A7 (j+1) c7).ownBlock:=fun e=>by
      rcases hl7 with h|h
      ·exact hne14 (e.trans h)
      ·rw [h] at e;have hz:=hg.size;have hzz:=bW6.size;simp at e;omega
     exact ⟨⟨j+1,A7,c7,by simp,HJ.o,(jB0 hg6 hg7 (jzN HOW.o)).trans (jyK _),by simp [go_sem,q0],by simp [go_sem,q1],by simp [go_sem,q2],by intro o;simp [go_sem,qf],
      by rw [←HPR.o];exact World.ownsRow.kept ho7 (jyK _) (by cases hv:(Value.slice A7 (j+1) c7).ownBlock with
       | none=>simp
       | some g=>exact .inr (fun e=>hne7 (by rw [hv];exact e.symm)))⟩,by have:=HJ.o;simp [intOf];omega⟩
    ·have p1:decide (j < ks.length)=false:=by simp;omega
     have e:j=ks.length:=by omega
     subst e;have how:=HOW.o;rw [List.take_of_length_le (by rw [HOL.o];omega)] at how;have s0:=hg.cell r0 (by simp;omega);have s1:=hg.cell r1 (by simp;omega);have s2:=hg.cell r2 (by simp;omega);have sf:∀o,wr.frozen? ⟨w.heap.size,o,none⟩=false:=fun o=>(jyT hg (by have:=hbw3.size;omega) (by simp;omega)).trans (rf o)
     have hrow:=jzN how;have hner:some w.heap.size≠(Value.slice Ao ks.length co).ownBlock:=fun e=>by have:=hrow _ e.symm;omega
     clear hj HOW;go_wp2;refine bodyPost_ret (v:= .tuple #[.agg #[bs g0, .int .i64 mass, .slice Ao ks.length co], .int .i64 0]) (by simp [results,results110,go_sem,s0,s1,s2,sf]) rfl ?_;have hg3w:wr.grownBy (((wr.setCell ⟨w.heap.size,0,none⟩ (bs g0)).setCell ⟨w.heap.size,1,none⟩ (.int .i64 mass)).setCell ⟨w.heap.size,2,none⟩ (.slice Ao ks.length co)) (some w.heap.size):=((jyK _).trans (jyK _)).trans (jyK _)
     have how3:jzi (((wr.setCell ⟨w.heap.size,0,none⟩ (bs g0)).setCell ⟨w.heap.size,1,none⟩ (.int .i64 mass)).setCell ⟨w.heap.size,2,none⟩ (.slice Ao ks.length co)) w3.heap.size (.slice Ao ks.length co) ks.length outs:=World.ownsRow.kept how hg3w (by
      cases hv:(Value.slice Ao ks.length co).ownBlock with
      | none=>simp
      | some g=>exact .inr (fun e=>hner (by rw [hv];exact e.symm)))
     obtain ⟨A',d',e',hv⟩:=how3.pv HOL.o hk0;cases e'
     exact ⟨.inr ⟨HKL.o,_,_,rfl,hv⟩,(by with_reducible repeat first|exact bR|assumption|apply bA|apply bD|apply bN|refine bC ?_ (by go_size)|refine bS ?_ ‹_›)⟩
theorem jCm (hE:Env w) (h:MixIn w A n ls mass q) (ho:Ordered ks) (hm:∀x,x∈ks↔jzj (jyI ls) x=true) (h0:0 < ks.length) (hkl:ks.length≤64) (hg0:(ls.getD 0 jyM).grain=g0)
  (hol:outs.length=ks.length) (hout:∀j,j < ks.length→(outs.getD j ([],[])).1=ks.getD j []∧StrQ (tot (jyI ls) (ks.getD j []) / ((mass:Int):Rat))∧jcF (tot (jyI ls) (ks.getD j []) / ((mass:Int):Rat))=(outs.getD j ([],[])).2∧jbq (tot (jyI ls) (ks.getD j []) / ((mass:Int):Rat))=0):
  Calls prog 110 #[.slice A n c] w fun e w'=>∃B d,e= .returned (.tuple #[.agg #[bs g0, .int .i64 mass, .slice B ks.length d], .int .i64 0])∧Pv w' B ks.length outs∧Below w.heap.size w w':=
 (jCp hE h ho hm h0 hg0 hol (fun _=>hout)).mono fun e w' ⟨h1,h2⟩=>by
   rcases h1 with ⟨h,_⟩|⟨_,B,d,e1,e2⟩
   ·omega
   ·exact ⟨B,d,e1,e2,h2⟩
end
end Go.Proofs.YtfagcpcikjlboaaGreatDoor
