/- Parts. -/
import Derived.Test.YthciialjockjmaaGreatDoorOdG
import Derived.Test.YthciialjockjmaaGreatDoorMxG
set_option linter.all false
set_option maxRecDepth 100000
set_option maxHeartbeats 8000000
namespace Go.Proofs.YthciialjockjmaaGreatDoor
open Go Go.RowKit

structure MixIn (w:World) (A:Option Addr) (n:Nat) (ls:List Lay) (mass:Int) (q:Nat):Prop where
 view:Lv w A n ls
 pos:0 < n
 le:n≤64
 lay:∀x∈ls,LayIn x
 qle:q≤18
 sz:∀x∈ls,∀p∈x.shares,Sz q (numQ p.2)
 chk:jaf jb2 ls=0
 mix:jlG (ls.getD 0 jbR).grain 0 ls=(mass,0)
theorem jfY {α:Type} {l:List α} {i:Nat} {d:α} (h:i < l.length):l.getD i d∈l:=by
 rw [List.getD_eq_getElem?_getD,List.getElem?_eq_getElem h];exact List.getElem_mem h
section
variable {w:World} {A:Option Addr} {n q:Nat} {ls:List Lay} {mass:Int}
theorem MixIn.layer (h:MixIn w A n ls mass q) {i:Nat} (hi:i < n):(ls.getD i jbR)∈ls∧1≤(ls.getD i jbR).mass∧(ls.getD i jbR).mass≤999999999∧(ls.getD i jbR).shares.length≤64:=by
 have hm:=jfY (d:=jbR) (show i < ls.length by rw [h.view.len];exact hi)
 have h1:=jaU (jaQ h.chk _ hm)
 exact ⟨hm,h1.2.1,h1.2.2.1,(jbp h1.2.2.2).1.2⟩
theorem MixIn.share (h:MixIn w A n ls mass q) {x:Lay} (hx:x∈ls) {p:List UInt8×List UInt8} (hp:p∈x.shares):IsNum p.2 (numQ p.2)∧p.1.length≤maxLen∧Sz q (numQ p.2):=by
 have h1:=jaU (jaQ h.chk _ hx)
 have h2:=(jbp h1.2.2.2).2 p hp
 refine ⟨jbw h2.2.1, ?_,h.sz x hx p hp⟩
 have:=h2.1
 simp [jb8] at this
 unfold maxLen;omega
theorem jgK (h:MixIn w A n ls mass q) {x:Lay} (hx:x∈ls) {c:List UInt8×Rat} (hc:c∈jbm x.mass x.shares):Sz (q+1) c.2:=by
 unfold jbm at hc
 obtain ⟨p,hp,rfl⟩:=List.mem_map.1 hc
 have h1:=(h.share hx hp).2.2
 have h2:=jaU (jaQ h.chk _ hx)
 exact h1.mul (jdb ⟨by omega,by omega⟩)
theorem jiM (h:MixIn w A n ls mass q) {i:Nat} {c:List UInt8×Rat} (hc:c∈jaO (ls.take i)):Sz (q+1) c.2:=by
 unfold jaO at hc
 obtain ⟨x,hx,hc⟩:=List.mem_flatMap.1 hc
 exact jgK h (List.mem_of_mem_take hx) hc
theorem jiX (h:MixIn w A n ls mass q) {y:List UInt8} (hy:jf8 (jaO ls) y=true):y.length≤maxLen:=by
 unfold jf8 at hy
 obtain ⟨c,hc,he⟩:=List.any_eq_true.1 hy
 have he':c.1=y:=by simpa using he
 unfold jaO at hc
 obtain ⟨x,hx,hc⟩:=List.mem_flatMap.1 hc
 unfold jbm at hc
 obtain ⟨p,hp,rfl⟩:=List.mem_map.1 hc
 have:=(h.share hx hp).2.1
 rw [←he'];exact this
noncomputable def jhg (ls:List Lay) (i k:Nat):List (List UInt8×Rat):=jaO (ls.take i)++jbm (ls.getD i jbR).mass ((ls.getD i jbR).shares.take k)
theorem jie (h:MixIn w A n ls mass q) {i k:Nat} (hi:i < n):(jhg ls i k).length≤4096:=by
 have h1:=je5 (ls:=ls.take i) (fun x hx=>by
  have:=jaU (jaQ h.chk _ (List.mem_of_mem_take hx))
  exact (jbp this.2.2.2).1.2)
 have h2:=(h.layer hi).2.2.2
 have h3:((ls.getD i jbR).shares.take k).length≤64:=by rw [List.length_take];omega
 have h4:(ls.take i).length≤63:=by have:=h.le;rw [List.length_take];omega
 unfold jhg
 rw [List.length_append,jeW]
 omega
theorem jke {cs:List (List UInt8×Rat)} (y:List UInt8) (hq:q≤18) (hl:cs.length≤4096) (hc:∀c∈cs,Sz (q+1) c.2):Sz 82000 (tot cs y):=by
 refine (jnB y hc).mono ?_
 have:cs.length*(q+1+1)≤4096*20:=Nat.mul_le_mul hl (by omega)
 omega
theorem jo9 (h:MixIn w A n ls mass q) {i k:Nat} (hi:i < n) (y:List UInt8):Sz 82000 (tot (jhg ls i k) y):=by
 refine jke y h.qle (jie h hi) (fun c hc=> ?_)
 rcases List.mem_append.1 hc with hc|hc
 ·exact jiM h hc
 ·have hm:=(h.layer hi).1
  refine jgK h hm ?_
  unfold jbm at hc ⊢
  obtain ⟨p,hp,e⟩:=List.mem_map.1 hc
  exact List.mem_map.2 ⟨p,List.mem_of_mem_take hp,e⟩
theorem jpP (h:MixIn w A n ls mass q) (y:List UInt8):Sz 82000 (tot (jaO ls) y):=by
 refine jke y h.qle ?_ (fun c hc=>jiM h (i:=ls.length) (by rwa [List.take_length]))
 have h1:=je5 (ls:=ls) (fun x hx=>by
  have:=jaU (jaQ h.chk _ hx)
  exact (jbp this.2.2.2).1.2)
 have:=h.view.len
 have:=h.le
 omega
theorem jkJ {i:Nat}:jhg ls i 0=jaO (ls.take i):=by unfold jhg;simp [jbm]
theorem jms {i:Nat} (hi:i < ls.length):jhg ls i (ls.getD i jbR).shares.length=jaO (ls.take (i+1)):=by
 unfold jhg;rw [List.take_length];exact jj0 hi rfl
theorem jkX {i k:Nat} {p:List UInt8×List UInt8} (hk:k < (ls.getD i jbR).shares.length) (hp:(ls.getD i jbR).shares.getD k ([],[])=p):jhg ls i k++[(p.1,numQ p.2*(((ls.getD i jbR).mass:Int):Rat))]=jhg ls i (k+1):=by
 unfold jhg;rw [List.append_assoc,jhS hk hp]
theorem joS (hE:Env w) (h:MixIn w A n ls mass q) {c:Nat}:Calls Tryz.prog 65 #[.slice A n c] w fun e w'=>e= .returned (.tuple #[.int .i64 mass, .int .i64 0])∧Below w.heap.size w w':=by
 have:=joW (c:=c) hE h.view h.pos h.le h.lay h.chk h.mix
 exact this
theorem jay {w:World} {a:Addr} {v:Value} (h:w.cell? a=some v) (o:Obj):(w.alloc o).cell? a=some v:=by
 rw [World.cell?_alloc_lt _ _ _ (World.block_lt_of_cell? _ _ h)];exact h
theorem jcg {w:World} {b:Nat} (hb:b < w.heap.size) (h:∀o,w.frozen? ⟨b,o,none⟩=false) (x:Obj) (o:Nat):(w.alloc x).frozen? ⟨b,o,none⟩=false:=by
 rw [jbl (World.grownBy_alloc w x none) hb (by simp)];exact h o
theorem jhy {w:World} {base n:Nat} {v:Value} {ps:List (List UInt8×List UInt8)} (h:jgT w base v n ps):∀g,v.ownBlock=some g→base≤g:=fun g hg=>(World.ownsRow.lt h g hg).1
theorem jgn {w w3:World} {g:List UInt8} {m:Int} {o:Obj} (h:Below ((w.alloc (.cells #[bs g, .int .i64 m, .slice none 0 0] 51)).alloc o).heap.size ((w.alloc (.cells #[bs g, .int .i64 m, .slice none 0 0] 51)).alloc o) w3):jch w3 w.heap.size:=fun p z h1=>by
 rw [(ja0 h).1 _ _ (by simp;omega)] at h1
 rw [World.cell?_alloc_lt _ _ _ (by simp)] at h1
 rcases p with _ | _ | _|p <;> simp at h1
theorem Lv.low {w w':World} {A:Option Addr} {n i:Nat} {ls:List Lay} (h:Lv w A n ls) (hi:i < n) (hb:Below w.heap.size w w'):∃b o B d,A=some ⟨b,o,none⟩∧w'.cell? ⟨b,o+i*3,none⟩=some (bs (ls.getD i jbR).grain)∧w'.cell? ⟨b,o+i*3+1,none⟩=some (.int .i64 (ls.getD i jbR).mass)∧w'.cell? ⟨b,o+i*3+2,none⟩=some (.slice B (ls.getD i jbR).shares.length d)∧Pv w B (ls.getD i jbR).shares.length (ls.getD i jbR).shares:=by
 obtain ⟨b,o,rfl,hbl,hat⟩:=h.at_ (by omega)
 obtain ⟨B,d,h1,h2,h3,h4⟩:=(hat i hi).at_
 exact ⟨b,o,B,d,rfl,ja6 hb h1,ja6 hb h2,ja6 hb h3,h4⟩
end
section
variable {w:World} {A:Option Addr} {n c q:Nat} {ls:List Lay} {mass:Int} {ks:List (List UInt8)} {jdk:List (List UInt8×List UInt8)} {g0:List UInt8}
set_option maxHeartbeats 16000000 in
theorem jpM (hE:Env w) (h:MixIn w A n ls mass q) (ho:Ordered ks) (hm:∀x,x∈ks↔jf8 (jaO ls) x=true) (h0:0 < ks.length) (hkl:ks.length≤64) (hg0:(ls.getD 0 jbR).grain=g0)
  (hol:jdk.length=ks.length) (hout:∀j,j < ks.length→(jdk.getD j ([],[])).1=ks.getD j []∧StrQ (tot (jaO ls) (ks.getD j []) / ((mass:Int):Rat))∧jbB (tot (jaO ls) (ks.getD j []) / ((mass:Int):Rat))=(jdk.getD j ([],[])).2∧jbI (tot (jaO ls) (ks.getD j []) / ((mass:Int):Rat))=0):
  Calls Tryz.prog 20 #[.slice A n c] w fun e w'=>∃B d,e= .returned (.tuple #[.agg #[bs g0, .int .i64 mass, .slice B ks.length d], .int .i64 0])∧Pv w' B ks.length jdk∧Below w.heap.size w w':=by
 have HE:=Lib.hid hE
 have HI:=Lib.hid h
 have HN:=Lib.hid h.le
 have H0:=Lib.hid h.pos
 have HO:=Lib.hid ho
 have HKM:=Lib.hid hm
 have HK0:=Lib.hid h0
 have HKL:=Lib.hid hkl
 have HG0:=Lib.hid hg0
 have HOL:=Lib.hid hol
 have HOUT:=Lib.hid hout
 have hmm:= @run_makeMap Tryz.prog
 clear hE h ho hm h0 hkl hg0 hol hout
 go_enter Tryz.func20,Tryz.ntmps20
 go_wp2_with (go_at_call 65;((with_reducible refine (joS (HE.out.below (by with_reducible repeat first|exact bR|assumption|apply bA|apply bD|apply bN|refine bC ?_ (by go_size)|refine bS ?_ ‹_›)) ⟨HI.out.view.below (by with_reducible repeat first|exact bR|assumption|apply bA|apply bD|apply bN|refine bC ?_ (by go_size)|refine bS ?_ ‹_›),HI.out.pos,HI.out.le,HI.out.lay,HI.out.qle,HI.out.sz,HI.out.chk,HI.out.mix⟩).mono ?_);rintro e1 w1 ⟨rfl,hb1⟩);obtain ⟨hc1,hf1⟩:=ja0 hb1;(try simp only [dw] at hc1 hf1);have z1_0:w.heap.size < w1.heap.size:=(by have:=hb1.size;(try simp at this);omega))
 have hlt:w.heap.size < w1.heap.size:=z1_0
 obtain ⟨M,hM⟩:∃x,w1.heap.size=x:=⟨_,rfl⟩
 have HQ0:=MapQ.made w1
 simp only [hM] at HQ0 hlt ⊢
 have hbM:Below w.heap.size w w1:=(by with_reducible repeat first|exact bR|assumption|apply bA|apply bD|apply bN|refine bC ?_ (by go_size)|refine bS ?_ ‹_›)
 have zM:(w1.alloc (.map #[] 0)).heap.size=M+1:=by rw [World.size_alloc,hM]
 go_loopw [31] (fun u wr=>∃(i:Nat) (D:DataW Value),u= .int .i64 (i:Int)∧i≤n∧Below w.heap.size w wr∧w.heap.size < wr.heap.size
  ∧wr.cell? ⟨w.heap.size,0,none⟩=some (bs [])∧wr.cell? ⟨w.heap.size,1,none⟩=some (.int .i64 0)∧wr.cell? ⟨w.heap.size,2,none⟩=some (.slice none 0 0)∧(∀o,wr.frozen? ⟨w.heap.size,o,none⟩=false)
  ∧MapQ wr M (jaO (ls.take i)).length D (jaO (ls.take i))) (fun u _=>n - (intOf u).toNat)
 case atStart=>exact ⟨0,_,rfl,Nat.zero_le _,(by with_reducible repeat first|exact bR|assumption|apply bA|apply bD|apply bN|refine bC ?_ (by go_size)|refine bS ?_ ‹_›),by rw [zM];omega,by simp [go_sem,hc1,z1_0],by simp [go_sem,hc1,z1_0],by simp [go_sem,hc1,z1_0],by intro o;simp [go_sem,hf1,z1_0],HQ0⟩
 case round=>
  obtain ⟨i,D,rfl,hin,hb,hsz,e0,e1,e2,f0,hq⟩:=hrel
  have HQ:=Lib.hid hq
  clear hq HQ0 hc1 hf1 zM hb1 hmm
  by_cases hi:i < n
  ·have p0:decide (i < n)=true:=by simpa using hi
   have hnn:=HN.out
   obtain ⟨b,o,B,d,rfl,k0,k1,k2,kp⟩:=HI.out.view.low hi hb
   have HP:=Lib.hid kp
   have HL:=Lib.hid (HI.out.layer hi)
   have HII:=Lib.hid hi
   obtain ⟨g,hg⟩:∃x,(ls.getD i jbR).grain=x:=⟨_,rfl⟩
   obtain ⟨m,hm⟩:∃x,(ls.getD i jbR).mass=x:=⟨_,rfl⟩
   obtain ⟨l,hl⟩:∃x,(ls.getD i jbR).shares.length=x:=⟨_,rfl⟩
   have HMM:=Lib.hid hm
   have HLL:=Lib.hid hl
   rw [hg] at k0
   rw [hm] at k1 HL
   rw [hl] at k2 HL HP
   clear hg hm hl kp hi
   go_wp2
   obtain ⟨B8,hB8⟩:∃x,wr.heap.size=x:=⟨_,rfl⟩
   have HQ8:Hid (MapQ (wr.alloc (.cells #[bs g, .int .i64 m, .slice B l d] 51)) M (jhg ls i 0).length D (jhg ls i 0)):=Lib.hid (by rw [jkJ];exact HQ.out.below (by with_reducible repeat first|exact bR|assumption|apply bA|apply bD|apply bN|refine bC ?_ (by go_size)|refine bS ?_ ‹_›))
   have hM8:M < B8:=by rw [←hB8];exact HQ.out.lt
   have hsz8:w.heap.size < B8:=by rw [←hB8];exact hsz
   have hne8:=nl hsz8
   have z8:(wr.alloc (.cells #[bs g, .int .i64 m, .slice B l d] 51)).heap.size=B8+1:=by rw [World.size_alloc,hB8]
   have s8:(wr.alloc (.cells #[bs g, .int .i64 m, .slice B l d] 51)).cell? ⟨B8,1,none⟩=some (.int .i64 m):=by rw [←hB8];simp
   simp only [hB8]
   go_loopw [38] (fun u wx=>∃(k:Nat) (D:DataW Value),u= .int .i64 (k:Int)∧k≤l∧Below w.heap.size w wx∧B8 < wx.heap.size
    ∧wx.cell? ⟨w.heap.size,0,none⟩=some (bs [])∧wx.cell? ⟨w.heap.size,1,none⟩=some (.int .i64 0)∧wx.cell? ⟨w.heap.size,2,none⟩=some (.slice none 0 0)∧(∀o,wx.frozen? ⟨w.heap.size,o,none⟩=false)
    ∧wx.cell? ⟨B8,1,none⟩=some (.int .i64 m)∧MapQ wx M (jhg ls i k).length D (jhg ls i k)) (fun u _=>l - (intOf u).toNat)
   case atStart=>exact ⟨0,D,rfl,Nat.zero_le _,(by with_reducible repeat first|exact bR|assumption|apply bA|apply bD|apply bN|refine bC ?_ (by go_size)|refine bS ?_ ‹_›),by rw [z8];omega,jay e0 _,jay e1 _,jay e2 _,fun o=>jcg hsz f0 _ o,s8,HQ8.out⟩
   case round=>
    obtain ⟨k,D,rfl,hkl,hb2,hsz2,r0,r1,r2,rf,t8,hq⟩:=hrel
    have HQ:=Lib.hid hq
    clear hq HQ8 z8 s8 k0 k1 k2 hb e0 e1 e2 f0
    by_cases hk:k < l
    ·have p1:decide (k < l)=true:=by simpa using hk
     have hii:=HII.out
     have HKK:=Lib.hid hk
     have hl64:=HL.out.2.2.2
     obtain ⟨b',o',rfl,hbl',hcell⟩:=(HP.out.below hb2).at_ (by omega)
     obtain ⟨hx,hy⟩:=hcell k hk
     have hmem:((ls.getD i jbR).shares.getD k ([],[]))∈(ls.getD i jbR).shares:=jfY (by rw [HLL.out];exact hk)
     have HSH:=Lib.hid (HI.out.share (HI.out.layer hii).1 hmem)
     have HST:=Lib.hid (jkX (k:=k) (p:=(ls.getD i jbR).shares.getD k ([],[])) (by rw [HLL.out];exact hk) rfl)
     rw [HMM.out] at HST
     obtain ⟨x1,hx1⟩:∃x,((ls.getD i jbR).shares.getD k ([],[])).1=x:=⟨_,rfl⟩
     obtain ⟨x2,hx2⟩:∃x,((ls.getD i jbR).shares.getD k ([],[])).2=x:=⟨_,rfl⟩
     obtain ⟨v,hv⟩:∃v,numQ ((ls.getD i jbR).shares.getD k ([],[])).2=v:=⟨_,rfl⟩
     rw [hv] at HSH HST
     rw [hx1] at hx HSH HST
     rw [hx2] at hy HSH
     have HT:=Lib.hid (jo9 HI.out (k:=k) hii x1)
     have HCL:=Lib.hid (jie HI.out (k:=k) hii)
     obtain ⟨cs,hcs⟩:∃c,jhg ls i k=c:=⟨_,rfl⟩
     rw [hcs] at HST HT HCL HQ
     have HSM:Hid (SmallQ ((m:Int):Rat)):=Lib.hid (jco (by have:=HL.out;omega) (by have:=HL.out;omega))
     obtain ⟨z,hz⟩:∃z,v*((m:Int):Rat)=z:=⟨_,rfl⟩
     have HZ:=Lib.hid hz
     rw [hz] at HST
     clear hcell hmem hx1 hx2 hv hcs hz hk
     go_upto_region 11 with (fail)
     go_cut [11] (fun u wx=>∃b11,u= .pointer (some ⟨b11,0,none⟩)∧wr.heap.size < b11∧b11 < wx.heap.size∧Below (wr.alloc (.cells #[bs x1,bs x2] 56)).heap.size (wr.alloc (.cells #[bs x1,bs x2] 56)) wx∧(∀o,wx.frozen? ⟨b11,o,none⟩=false)∧FAt wx b11 0 z)
     case first=>
      refine ja4 (fun w'=>Below (wr.alloc (.cells #[bs x1,bs x2] 56)).heap.size (wr.alloc (.cells #[bs x1,bs x2] 56)) w') [8] (by kernel_rfl) ?_
      refine tb 0 (.pointer (some ⟨wr.heap.size,1,none⟩)) [1] rfl (by kernel_rfl) (fun _ _ _ h=>h) (by rfl) (fun _ hcS hfS=>by go_simp) (by with_reducible repeat first|exact bR|assumption|apply bA|apply bD|apply bN|refine bC ?_ (by go_size)|refine bS ?_ ‹_›) ?_
      simp only [Act.put,pA,pB,pC,pD,pE,pF]
      refine tb 1 (bs x2) [2] rfl (by kernel_rfl) (fun _ _ _ h=>h) (by rfl) (fun _ hcS hfS=>by go_simp) (by with_reducible repeat first|exact bR|assumption|apply bA|apply bD|apply bN|refine bC ?_ (by go_size)|refine bS ?_ ‹_›) ?_
      simp only [Act.put,pA,pB,pC,pD,pE,pF]
      refine tb 3 (.pointer (some ⟨B8,1,none⟩)) [4] rfl (by kernel_rfl) (fun _ _ _ h=>h) (by rfl) (fun _ hcS hfS=>by go_simp) (by with_reducible repeat first|exact bR|assumption|apply bA|apply bD|apply bN|refine bC ?_ (by go_size)|refine bS ?_ ‹_›) ?_
      simp only [Act.put,pA,pB,pC,pD,pE,pF]
      refine tb 4 (.int .i64 m) [5] rfl (by kernel_rfl) (fun _ _ _ h=>h) (by rfl) (fun _ hcS hfS=>by go_simp) (by with_reducible repeat first|exact bR|assumption|apply bA|apply bD|apply bN|refine bC ?_ (by go_size)|refine bS ?_ ‹_›) ?_
      simp only [Act.put,pA,pB,pC,pD,pE,pF]
      refine ja1 (rs:=[2,7]) (by kernel_rfl) (by simp) (AllT.cons rfl (fun K hK=> ?_) (AllT.cons rfl (fun K hK=> ?_) AllT.nil))
      ·go_simp
       go_wp2_with ((go_at_call 32;((with_reducible refine (jav HSH.out.1 (HE.out.below (by with_reducible repeat first|exact bR|assumption|apply bA|apply bD|apply bN|refine bC ?_ (by go_size)|refine bS ?_ ‹_›))).mono ?_);rintro e2x w2x ⟨s2x,A2x,n2x,c2x,t2x,B2x,m2x,d2x,rfl,⟨hr2x,hq2x⟩,hb2x⟩);obtain ⟨hc2x,hf2x⟩:=ja0 hb2x;(try simp only [dw] at hc2x hf2x));(first|have hy2x_0:wr.heap.size+1 < w2x.heap.size:=(by have:=hb2x.size;(try simp at this);omega)|have hy2x_0:=Nat.one_pos))
       refine hK.out _ _ (fun _=>(by with_reducible repeat first|exact bR|assumption|apply bA|apply bD|apply bN|refine bC ?_ (by go_size)|refine bS ?_ ‹_›)) ?_
       clear hK K
       refine ja1 (rs:=[5,7]) (by kernel_rfl) (by simp) (AllT.cons rfl (fun K hK=> ?_) (AllT.cons rfl (fun K hK=> ?_) AllT.nil))
       ·go_simp
        go_wp2_with ((go_at_call 66;((with_reducible refine (jcN HSM.out).mono ?_);rintro e3x w3x ⟨rfl,hb3x⟩);obtain ⟨hc3x,hf3x⟩:=ja0 hb3x;(try simp only [dw] at hc3x hf3x));(first|have hy3x_0:wr.heap.size+1 < w3x.heap.size:=(by have:=hb3x.size;(try simp at this);omega)|have hy3x_0:=Nat.one_pos);(first|have hy3x_1:w2x.heap.size < w3x.heap.size:=(by have:=hb3x.size;(try simp at this);omega)|have hy3x_1:=Nat.one_pos))
        refine hK.out _ _ (fun _=>(by with_reducible repeat first|exact bR|assumption|apply bA|apply bD|apply bN|refine bC ?_ (by go_size)|refine bS ?_ ‹_›)) ?_
        clear hK K
        refine ja1 (rs:=[6,7]) (by kernel_rfl) (by simp) (AllT.cons rfl (fun K hK=> ?_) (AllT.cons rfl (fun K hK=> ?_) AllT.nil))
        ·go_simp
         go_wp2_with ((go_at_call 54;((with_reducible refine (jaD q 1 HZ.out (RepF.below ⟨hr2x,hq2x⟩ (by with_reducible repeat first|exact bR|assumption|apply bA|apply bD|apply bN|refine bC ?_ (by go_size)|refine bS ?_ ‹_›)) (HSM.out.rep _) HSH.out.2.2 HSM.out.sz (by have:=HI.out.qle;omega)).mono ?_);rintro e4x w4x ⟨s4x,A4x,n4x,c4x,t4x,B4x,m4x,d4x,rfl,⟨hr4x,hq4x⟩,hb4x⟩);obtain ⟨hc4x,hf4x⟩:=ja0 hb4x;(try simp only [dw] at hc4x hf4x));(first|have hy4x_0:wr.heap.size+1 < w4x.heap.size:=(by have:=hb4x.size;(try simp at this);omega)|have hy4x_0:=Nat.one_pos);(first|have hy4x_1:w2x.heap.size < w4x.heap.size:=(by have:=hb4x.size;(try simp at this);omega)|have hy4x_1:=Nat.one_pos);(first|have hy4x_2:w3x.heap.size < w4x.heap.size:=(by have:=hb4x.size;(try simp at this);omega)|have hy4x_2:=Nat.one_pos))
         refine hK.out _ _ (fun _=>(by with_reducible repeat first|exact bR|assumption|apply bA|apply bD|apply bN|refine bC ?_ (by go_size)|refine bS ?_ ‹_›)) ?_
         clear hK K
         refine ja1 (rs:=[7]) (by kernel_rfl) (by simp) (AllT.cons rfl (fun K hK=> ?_) AllT.nil)
         go_simp
         refine hK.out _ _ (fun _=>(by with_reducible repeat first|exact bR|assumption|apply bA|apply bD|apply bN|refine bC ?_ (by go_size)|refine bS ?_ ‹_›)) ?_
         clear hK K
         have g2:=hb2x.size
         have g3:=hb3x.size
         have g4:=hb4x.size
         (try simp at g2 g3 g4)
         refine rd1 8 (by kernel_rfl) rfl (fun K hK=> ?_)
         go_simp
         refine hK.out _ _ (fun h=>(h (by decide)).elim) ?_
         clear hK K
         refine ja2 (by kernel_rfl) ?_ _
         go_wp2_with (fail)
         go_meet
         refine ⟨_,rfl,(by (try simp);(try omega)),(by (try simp);(try omega)),(by with_reducible repeat first|exact bR|assumption|apply bA|apply bD|apply bN|refine bC ?_ (by go_size)|refine bS ?_ ‹_›), ?_,⟨⟨s4x,A4x,n4x,c4x,t4x,B4x,m4x,d4x, ?_, ?_, ?_, ?_,⟨?_, ?_⟩⟩⟩⟩
         all_goals (first
          | (intro o;simp [go_sem,hc2x,hc3x,hc4x,hf2x,hf3x,hf4x,jab,hy2x_0,hy3x_0,hy3x_1,hy4x_0,hy4x_1,hy4x_2,nls hy2x_0,nls hy3x_0,nls hy3x_1];done)
          | (simp [go_sem,hc2x,hc3x,hc4x,hf2x,hf3x,hf4x,jab,hy2x_0,hy3x_0,hy3x_1,hy4x_0,hy4x_1,hy4x_2,nls hy2x_0,nls hy3x_0,nls hy3x_1];done)
          | exact (by with_reducible repeat first|assumption|apply rD|apply rN|apply rA|refine rP ?_ rfl (by simp [go_sem,hc2x,hc3x,hc4x,jab,hy2x_0,hy3x_0,hy3x_1,hy4x_0,hy4x_1,hy4x_2,nls hy2x_0,nls hy3x_0,nls hy3x_1])|refine rB ?_ ‹_›))
        ·go_simp
         refine hK.out _ _ (fun _=>(by with_reducible repeat first|exact bR|assumption|apply bA|apply bD|apply bN|refine bC ?_ (by go_size)|refine bS ?_ ‹_›)) ?_
         clear hK K
         refine ja1 (rs:=[6]) (by kernel_rfl) (by simp) (AllT.cons rfl (fun K hK=> ?_) AllT.nil)
         go_simp
         go_wp2_with ((go_at_call 54;((with_reducible refine (jaD q 1 HZ.out (RepF.below ⟨hr2x,hq2x⟩ (by with_reducible repeat first|exact bR|assumption|apply bA|apply bD|apply bN|refine bC ?_ (by go_size)|refine bS ?_ ‹_›)) (HSM.out.rep _) HSH.out.2.2 HSM.out.sz (by have:=HI.out.qle;omega)).mono ?_);rintro e4x w4x ⟨s4x,A4x,n4x,c4x,t4x,B4x,m4x,d4x,rfl,⟨hr4x,hq4x⟩,hb4x⟩);obtain ⟨hc4x,hf4x⟩:=ja0 hb4x;(try simp only [dw] at hc4x hf4x));(first|have hy4x_0:wr.heap.size+1 < w4x.heap.size:=(by have:=hb4x.size;(try simp at this);omega)|have hy4x_0:=Nat.one_pos);(first|have hy4x_1:w2x.heap.size < w4x.heap.size:=(by have:=hb4x.size;(try simp at this);omega)|have hy4x_1:=Nat.one_pos);(first|have hy4x_2:w3x.heap.size < w4x.heap.size:=(by have:=hb4x.size;(try simp at this);omega)|have hy4x_2:=Nat.one_pos))
         refine hK.out _ _ (fun _=>(by with_reducible repeat first|exact bR|assumption|apply bA|apply bD|apply bN|refine bC ?_ (by go_size)|refine bS ?_ ‹_›)) ?_
         clear hK K
         have g2:=hb2x.size
         have g3:=hb3x.size
         have g4:=hb4x.size
         (try simp at g2 g3 g4)
         refine rd1 8 (by kernel_rfl) rfl (fun K hK=> ?_)
         go_simp
         refine hK.out _ _ (fun h=>(h (by decide)).elim) ?_
         clear hK K
         refine ja2 (by kernel_rfl) ?_ _
         go_wp2_with (fail)
         go_meet
         refine ⟨_,rfl,(by (try simp);(try omega)),(by (try simp);(try omega)),(by with_reducible repeat first|exact bR|assumption|apply bA|apply bD|apply bN|refine bC ?_ (by go_size)|refine bS ?_ ‹_›), ?_,⟨⟨s4x,A4x,n4x,c4x,t4x,B4x,m4x,d4x, ?_, ?_, ?_, ?_,⟨?_, ?_⟩⟩⟩⟩
         all_goals (first
          | (intro o;simp [go_sem,hc2x,hc3x,hc4x,hf2x,hf3x,hf4x,jab,hy2x_0,hy3x_0,hy3x_1,hy4x_0,hy4x_1,hy4x_2,nls hy2x_0,nls hy3x_0,nls hy3x_1];done)
          | (simp [go_sem,hc2x,hc3x,hc4x,hf2x,hf3x,hf4x,jab,hy2x_0,hy3x_0,hy3x_1,hy4x_0,hy4x_1,hy4x_2,nls hy2x_0,nls hy3x_0,nls hy3x_1];done)
          | exact (by with_reducible repeat first|assumption|apply rD|apply rN|apply rA|refine rP ?_ rfl (by simp [go_sem,hc2x,hc3x,hc4x,jab,hy2x_0,hy3x_0,hy3x_1,hy4x_0,hy4x_1,hy4x_2,nls hy2x_0,nls hy3x_0,nls hy3x_1])|refine rB ?_ ‹_›))
       ·go_simp
        refine hK.out _ _ (fun _=>(by with_reducible repeat first|exact bR|assumption|apply bA|apply bD|apply bN|refine bC ?_ (by go_size)|refine bS ?_ ‹_›)) ?_
        clear hK K
        refine ja1 (rs:=[5]) (by kernel_rfl) (by simp) (AllT.cons rfl (fun K hK=> ?_) AllT.nil)
        go_simp
        go_wp2_with ((go_at_call 66;((with_reducible refine (jcN HSM.out).mono ?_);rintro e3x w3x ⟨rfl,hb3x⟩);obtain ⟨hc3x,hf3x⟩:=ja0 hb3x;(try simp only [dw] at hc3x hf3x));(first|have hy3x_0:wr.heap.size+1 < w3x.heap.size:=(by have:=hb3x.size;(try simp at this);omega)|have hy3x_0:=Nat.one_pos);(first|have hy3x_1:w2x.heap.size < w3x.heap.size:=(by have:=hb3x.size;(try simp at this);omega)|have hy3x_1:=Nat.one_pos))
        refine hK.out _ _ (fun _=>(by with_reducible repeat first|exact bR|assumption|apply bA|apply bD|apply bN|refine bC ?_ (by go_size)|refine bS ?_ ‹_›)) ?_
        clear hK K
        refine ja1 (rs:=[6]) (by kernel_rfl) (by simp) (AllT.cons rfl (fun K hK=> ?_) AllT.nil)
        go_simp
        go_wp2_with ((go_at_call 54;((with_reducible refine (jaD q 1 HZ.out (RepF.below ⟨hr2x,hq2x⟩ (by with_reducible repeat first|exact bR|assumption|apply bA|apply bD|apply bN|refine bC ?_ (by go_size)|refine bS ?_ ‹_›)) (HSM.out.rep _) HSH.out.2.2 HSM.out.sz (by have:=HI.out.qle;omega)).mono ?_);rintro e4x w4x ⟨s4x,A4x,n4x,c4x,t4x,B4x,m4x,d4x,rfl,⟨hr4x,hq4x⟩,hb4x⟩);obtain ⟨hc4x,hf4x⟩:=ja0 hb4x;(try simp only [dw] at hc4x hf4x));(first|have hy4x_0:wr.heap.size+1 < w4x.heap.size:=(by have:=hb4x.size;(try simp at this);omega)|have hy4x_0:=Nat.one_pos);(first|have hy4x_1:w2x.heap.size < w4x.heap.size:=(by have:=hb4x.size;(try simp at this);omega)|have hy4x_1:=Nat.one_pos);(first|have hy4x_2:w3x.heap.size < w4x.heap.size:=(by have:=hb4x.size;(try simp at this);omega)|have hy4x_2:=Nat.one_pos))
        refine hK.out _ _ (fun _=>(by with_reducible repeat first|exact bR|assumption|apply bA|apply bD|apply bN|refine bC ?_ (by go_size)|refine bS ?_ ‹_›)) ?_
        clear hK K
        have g2:=hb2x.size
        have g3:=hb3x.size
        have g4:=hb4x.size
        (try simp at g2 g3 g4)
        refine rd1 8 (by kernel_rfl) rfl (fun K hK=> ?_)
        go_simp
        refine hK.out _ _ (fun h=>(h (by decide)).elim) ?_
        clear hK K
        refine ja2 (by kernel_rfl) ?_ _
        go_wp2_with (fail)
        go_meet
        refine ⟨_,rfl,(by (try simp);(try omega)),(by (try simp);(try omega)),(by with_reducible repeat first|exact bR|assumption|apply bA|apply bD|apply bN|refine bC ?_ (by go_size)|refine bS ?_ ‹_›), ?_,⟨⟨s4x,A4x,n4x,c4x,t4x,B4x,m4x,d4x, ?_, ?_, ?_, ?_,⟨?_, ?_⟩⟩⟩⟩
        all_goals (first
         | (intro o;simp [go_sem,hc2x,hc3x,hc4x,hf2x,hf3x,hf4x,jab,hy2x_0,hy3x_0,hy3x_1,hy4x_0,hy4x_1,hy4x_2,nls hy2x_0,nls hy3x_0,nls hy3x_1];done)
         | (simp [go_sem,hc2x,hc3x,hc4x,hf2x,hf3x,hf4x,jab,hy2x_0,hy3x_0,hy3x_1,hy4x_0,hy4x_1,hy4x_2,nls hy2x_0,nls hy3x_0,nls hy3x_1];done)
         | exact (by with_reducible repeat first|assumption|apply rD|apply rN|apply rA|refine rP ?_ rfl (by simp [go_sem,hc2x,hc3x,hc4x,jab,hy2x_0,hy3x_0,hy3x_1,hy4x_0,hy4x_1,hy4x_2,nls hy2x_0,nls hy3x_0,nls hy3x_1])|refine rB ?_ ‹_›))
      ·go_simp
       refine hK.out _ _ (fun _=>(by with_reducible repeat first|exact bR|assumption|apply bA|apply bD|apply bN|refine bC ?_ (by go_size)|refine bS ?_ ‹_›)) ?_
       clear hK K
       refine ja1 (rs:=[2]) (by kernel_rfl) (by simp) (AllT.cons rfl (fun K hK=> ?_) AllT.nil)
       go_simp
       go_wp2_with ((go_at_call 32;((with_reducible refine (jav HSH.out.1 (HE.out.below (by with_reducible repeat first|exact bR|assumption|apply bA|apply bD|apply bN|refine bC ?_ (by go_size)|refine bS ?_ ‹_›))).mono ?_);rintro e2x w2x ⟨s2x,A2x,n2x,c2x,t2x,B2x,m2x,d2x,rfl,⟨hr2x,hq2x⟩,hb2x⟩);obtain ⟨hc2x,hf2x⟩:=ja0 hb2x;(try simp only [dw] at hc2x hf2x));(first|have hy2x_0:wr.heap.size+1 < w2x.heap.size:=(by have:=hb2x.size;(try simp at this);omega)|have hy2x_0:=Nat.one_pos))
       refine hK.out _ _ (fun _=>(by with_reducible repeat first|exact bR|assumption|apply bA|apply bD|apply bN|refine bC ?_ (by go_size)|refine bS ?_ ‹_›)) ?_
       clear hK K
       refine ja1 (rs:=[5]) (by kernel_rfl) (by simp) (AllT.cons rfl (fun K hK=> ?_) AllT.nil)
       go_simp
       go_wp2_with ((go_at_call 66;((with_reducible refine (jcN HSM.out).mono ?_);rintro e3x w3x ⟨rfl,hb3x⟩);obtain ⟨hc3x,hf3x⟩:=ja0 hb3x;(try simp only [dw] at hc3x hf3x));(first|have hy3x_0:wr.heap.size+1 < w3x.heap.size:=(by have:=hb3x.size;(try simp at this);omega)|have hy3x_0:=Nat.one_pos);(first|have hy3x_1:w2x.heap.size < w3x.heap.size:=(by have:=hb3x.size;(try simp at this);omega)|have hy3x_1:=Nat.one_pos))
       refine hK.out _ _ (fun _=>(by with_reducible repeat first|exact bR|assumption|apply bA|apply bD|apply bN|refine bC ?_ (by go_size)|refine bS ?_ ‹_›)) ?_
       clear hK K
       refine ja1 (rs:=[6]) (by kernel_rfl) (by simp) (AllT.cons rfl (fun K hK=> ?_) AllT.nil)
       go_simp
       go_wp2_with ((go_at_call 54;((with_reducible refine (jaD q 1 HZ.out (RepF.below ⟨hr2x,hq2x⟩ (by with_reducible repeat first|exact bR|assumption|apply bA|apply bD|apply bN|refine bC ?_ (by go_size)|refine bS ?_ ‹_›)) (HSM.out.rep _) HSH.out.2.2 HSM.out.sz (by have:=HI.out.qle;omega)).mono ?_);rintro e4x w4x ⟨s4x,A4x,n4x,c4x,t4x,B4x,m4x,d4x,rfl,⟨hr4x,hq4x⟩,hb4x⟩);obtain ⟨hc4x,hf4x⟩:=ja0 hb4x;(try simp only [dw] at hc4x hf4x));(first|have hy4x_0:wr.heap.size+1 < w4x.heap.size:=(by have:=hb4x.size;(try simp at this);omega)|have hy4x_0:=Nat.one_pos);(first|have hy4x_1:w2x.heap.size < w4x.heap.size:=(by have:=hb4x.size;(try simp at this);omega)|have hy4x_1:=Nat.one_pos);(first|have hy4x_2:w3x.heap.size < w4x.heap.size:=(by have:=hb4x.size;(try simp at this);omega)|have hy4x_2:=Nat.one_pos))
       refine hK.out _ _ (fun _=>(by with_reducible repeat first|exact bR|assumption|apply bA|apply bD|apply bN|refine bC ?_ (by go_size)|refine bS ?_ ‹_›)) ?_
       clear hK K
       have g2:=hb2x.size
       have g3:=hb3x.size
       have g4:=hb4x.size
       (try simp at g2 g3 g4)
       refine rd1 8 (by kernel_rfl) rfl (fun K hK=> ?_)
       go_simp
       refine hK.out _ _ (fun h=>(h (by decide)).elim) ?_
       clear hK K
       refine ja2 (by kernel_rfl) ?_ _
       go_wp2_with (fail)
       go_meet
       refine ⟨_,rfl,(by (try simp);(try omega)),(by (try simp);(try omega)),(by with_reducible repeat first|exact bR|assumption|apply bA|apply bD|apply bN|refine bC ?_ (by go_size)|refine bS ?_ ‹_›), ?_,⟨⟨s4x,A4x,n4x,c4x,t4x,B4x,m4x,d4x, ?_, ?_, ?_, ?_,⟨?_, ?_⟩⟩⟩⟩
       all_goals (first
        | (intro o;simp [go_sem,hc2x,hc3x,hc4x,hf2x,hf3x,hf4x,jab,hy2x_0,hy3x_0,hy3x_1,hy4x_0,hy4x_1,hy4x_2,nls hy2x_0,nls hy3x_0,nls hy3x_1];done)
        | (simp [go_sem,hc2x,hc3x,hc4x,hf2x,hf3x,hf4x,jab,hy2x_0,hy3x_0,hy3x_1,hy4x_0,hy4x_1,hy4x_2,nls hy2x_0,nls hy3x_0,nls hy3x_1];done)
        | exact (by with_reducible repeat first|assumption|apply rD|apply rN|apply rA|refine rP ?_ rfl (by simp [go_sem,hc2x,hc3x,hc4x,jab,hy2x_0,hy3x_0,hy3x_1,hy4x_0,hy4x_1,hy4x_2,nls hy2x_0,nls hy3x_0,nls hy3x_1])|refine rB ?_ ‹_›))
     case rest=>
      obtain ⟨b11,rfl,h11a,h11b,hbc,hf11,hat11⟩:=hcut
      obtain ⟨s6,A6,n6,c6,t6,B6,m6,d6,j0,j1,j2,j3,hr6⟩:=hat11.at_
      simp only [Nat.zero_add] at j0 j1 j2 j3
      have HR6:=Lib.hid hr6
      have hbw:Below wr.heap.size wr wc:=ja3 (ja7 (Below.refl _ _) _) hbc
      have hbW:Below w.heap.size w wc:=ja3 hb2 hbw
      have y0:wc.cell? ⟨wr.heap.size,0,none⟩=some (bs x1):=ja6 hbc (by simp)
      have hszr:w.heap.size < wr.heap.size:=Nat.lt_trans hsz8 hsz2
      have hz10:wr.heap.size < wc.heap.size:=Nat.lt_trans h11a h11b
      replace r0:=ja6 hbw r0
      replace r1:=ja6 hbw r1
      replace r2:=ja6 hbw r2
      replace t8:=ja6 hbw t8
      replace rf:=fun o=>jax hbw hszr rf o
      have HQw:=HQ
      have h11w:wr.heap.size≤b11:=Nat.le_of_lt h11a
      have h11r:w.heap.size < b11:=Nat.lt_trans hszr h11a
      have h118:B8 < b11:=Nat.lt_trans hsz2 h11a
      replace HQ:=Lib.hid (HQ.out.below hbw)
      replace hsz2:=Nat.lt_trans hsz2 hz10
      replace hszr:=Nat.lt_trans hszr hz10
      obtain ⟨B10,hB10⟩:∃x,wr.heap.size=x:=⟨_,rfl⟩
      rw [hB10] at y0 h11a hz10
      simp only [hB10]
      clear hat11 hr6 hbc hb2 hB10
      have HXL:=Lib.hid HSH.out.2.1
      cases hh:jf8 cs x1 with
      | false=>
        have HH:=Lib.hid hh
        have HIF:Hid (∀W,Below wc.heap.size wc W→IsF W (fv s6 A6 n6 c6 t6 B6 m6 d6) (z+tot cs x1)):=Lib.hid (fun W hb=>by
         rw [jip hh,Rat.add_zero]
         exact ⟨s6,A6,n6,c6,t6,B6,m6,d6,rfl,HR6.out.below hb⟩)
        clear hh
        go_wp2_with (first
         | (at_lookup;refine jmj HQ.out HXL.out HH.out rfl _ _ rfl rfl rfl ?_)
         | (at_mapUpdate;refine jiN (q:=z) (HQ.out.below (by with_reducible repeat first|exact bR|assumption|apply bA|apply bD|apply bN|refine bC ?_ (by go_size)|refine bS ?_ ‹_›)) (Nat.lt_of_le_of_lt HCL.out (by omega)) HXL.out (HIF.out _ (by with_reducible repeat first|exact bR|assumption|apply bA|apply bD|apply bN|refine bC ?_ (by go_size)|refine bS ?_ ‹_›)) rfl _ _ _ rfl rfl rfl rfl ?_;intro w5 D5 hmq5 hg5))
        have hBx:Below w.heap.size w (wc.alloc (.cells #[.int .i64 0, .slice none 0 0, .int .i64 0, .slice none 0 0] 69)):=ja7 hbW _
        have hsx:w.heap.size < (wc.alloc (.cells #[.int .i64 0, .slice none 0 0, .int .i64 0, .slice none 0 0] 69)).heap.size:=by rw [World.size_alloc];omega
        exact ⟨⟨k+1,D5,by simp,HKK.out,Below.trans hBx (jap hg5 (Nat.le_of_lt hsx) (fun j hj=>by cases hj;exact Nat.le_of_lt hlt)),Nat.lt_of_lt_of_le (by rw [World.size_alloc];omega) hg5.size,
         hg5.cell (jay r0 _) (by simp;omega),hg5.cell (jay r1 _) (by simp;omega),hg5.cell (jay r2 _) (by simp;omega),fun o=>(jbl hg5 hsx (by simp;omega)).trans (jcg hszr rf _ o),hg5.cell (jay t8 _) (by simp;omega),
         by rw [←HST.out,List.length_append];exact hmq5⟩,by have:=HKK.out;simp [intOf];omega⟩
      | true=>
        have HH:=Lib.hid hh
        obtain ⟨v0,hv0,s9,A9,n9,c9,t9,B9,m9,d9,rfl,hr9⟩:=HQ.out.val x1 hh
        have HAT:=Lib.hid hv0
        have HR9:=Lib.hid hr9
        clear hh hv0 hr9
        go_wp2_with (first
         | (at_lookup;refine jju HQ.out HXL.out HH.out HAT.out rfl _ _ rfl rfl rfl ?_)
         | ((go_at_call 67;((with_reducible refine (jd6 (q+1) 82000 rfl (HR6.out.below (by with_reducible repeat first|exact bR|assumption|apply bA|apply bD|apply bN|refine bC ?_ (by go_size)|refine bS ?_ ‹_›)) (HR9.out.below (by with_reducible repeat first|exact bR|assumption|apply bA|apply bD|apply bN|refine bC ?_ (by go_size)|refine bS ?_ ‹_›)) (by rw [←HZ.out];exact HSH.out.2.2.mul HSM.out.sz) HT.out (by have:=HI.out.qle;omega)).mono ?_);rintro e7 w7 ⟨s7,A7,n7,c7,t7,B7,m7,d7,rfl,⟨hr7,hq7⟩,hb7⟩);obtain ⟨hc7,hf7⟩:=ja0 hb7;(try simp only [dw] at hc7 hf7));(have bW7:Below wc.heap.size wc w7:=(by with_reducible repeat first|exact bR|assumption|apply bA|apply bD|apply bN|refine bC ?_ (by go_size)|refine bS ?_ ‹_›));have k70:=ja6 bW7 j0;have k71:=ja6 bW7 j1;have k72:=ja6 bW7 j2;have k73:=ja6 bW7 j3;have y7:=ja6 bW7 y0;have kf7:(∀o,w7.frozen? ⟨b11,o,none⟩=false):=fun o=>jax bW7 h11b hf11 o;have z7:=Nat.lt_of_lt_of_le h11b bW7.size)
         | (at_mapUpdate;refine jiN (q:=z) (HQw.out.below (by with_reducible repeat first|exact bR|assumption|apply bA|apply bD|apply bN|refine bC ?_ (by go_size)|refine bS ?_ ‹_›)) (Nat.lt_of_le_of_lt HCL.out (by omega)) HXL.out ⟨s7,A7,n7,c7,t7,B7,m7,d7,rfl,⟨(by with_reducible repeat first|assumption|apply rD|apply rN|apply rA|refine rP ?_ rfl (by simp [go_sem,k70,k71,k72,k73])|refine rB ?_ ‹_›),(by with_reducible repeat first|assumption|apply rD|apply rN|apply rA|refine rP ?_ rfl (by simp [go_sem,k70,k71,k72,k73])|refine rB ?_ ‹_›)⟩⟩ rfl _ _ _ rfl rfl rfl rfl ?_;intro w5 D5 hmq5 hg5))
        have bW7:Below wc.heap.size wc w7:=(by with_reducible repeat first|exact bR|assumption|apply bA|apply bD|apply bN|refine bC ?_ (by go_size)|refine bS ?_ ‹_›)
        have q0:=ja6 bW7 r0
        have q1:=ja6 bW7 r1
        have q2:=ja6 bW7 r2
        have q8:=ja6 bW7 t8
        have qf:∀o,w7.frozen? ⟨w.heap.size,o,none⟩=false:=fun o=>jax bW7 hszr rf o
        have zr7:=Nat.lt_of_lt_of_le hszr bW7.size
        have z87:=Nat.lt_of_lt_of_le hsz2 bW7.size
        have ne1:=nl h11r
        have ne2:=nl h118
        have le1:=Nat.le_of_lt h11r
        have hBx:Below w.heap.size w ((((w7.setCell ⟨b11,0,none⟩ (.int .i64 s7)).setCell ⟨b11,1,none⟩ (.slice A7 n7 c7)).setCell ⟨b11,2,none⟩ (.int .i64 t7)).setCell ⟨b11,3,none⟩ (.slice B7 m7 d7)):=(by with_reducible repeat first|exact bR|assumption|apply bA|apply bD|apply bN|refine bC ?_ (by go_size)|refine bS ?_ ‹_›)
        exact ⟨⟨k+1,D5,by simp,HKK.out,Below.trans hBx (jap hg5 (by simp;omega) (fun j hj=>by cases hj;exact Nat.le_of_lt hlt)),Nat.lt_of_lt_of_le (by simp;exact z87) hg5.size,
         hg5.cell (by simp [go_sem,q0,ne1]) (by simp;omega),hg5.cell (by simp [go_sem,q1,ne1]) (by simp;omega),hg5.cell (by simp [go_sem,q2,ne1]) (by simp;omega),fun o=>(jbl hg5 (by simp;exact zr7) (by simp;omega)).trans (by simp [go_sem,qf]),hg5.cell (by simp [go_sem,q8,ne2]) (by simp;omega),
         by rw [←HST.out,List.length_append];exact hmq5⟩,by have:=HKK.out;simp [intOf];omega⟩
    ·have p1:decide (k < l)=false:=by simp;omega
     have hkl':k=l:=by omega
     have HEND:=Lib.hid (jms (ls:=ls) (i:=i) (by rw [HI.out.view.len];exact HII.out))
     rw [HLL.out] at HEND
     subst hkl'
     clear hk
     go_wp2
     go_roundw
     case rel=>exact ⟨i+1,D,by simp,HII.out,hb2,by omega,r0,r1,r2,rf,by rw [←HEND.out];exact HQ.out⟩
     case measure=>have:=HII.out;simp [intOf];omega
  ·have p0:decide (i < n)=false:=by simp;omega
   have e:i=n:=by omega
   subst e
   have hq:=HQ.out
   rw [List.take_of_length_le (by rw [HI.out.view.len];omega)] at hq
   replace HQ:=Lib.hid hq
   obtain ⟨b,o,B,d,rfl,k0,k1,k2,_⟩:=HI.out.view.low H0.out hb
   rw [Nat.zero_mul,Nat.add_zero] at k0 k1 k2
   rw [HG0.out] at k0
   have HTOT:Hid (∀y,Sz 82000 (tot (jaO ls) y)):=Lib.hid (fun y=>jpP HI.out y)
   have HMB:Hid (0 < mass∧mass≤999999999):=Lib.hid (by
    have:=jlt (fun x hx=>(jaU (jaQ HI.out.chk x hx)).2.1) HI.out.mix
    have h1:=HI.out.view.len
    have h2:=HI.out.pos
    omega)
   have HYS:Hid (∀y∈ks,y.length≤maxLen):=Lib.hid (fun y hy=>jiX HI.out ((HKM.out y).1 hy))
   obtain ⟨cs,hcs⟩:∃c,jaO ls=c:=⟨_,rfl⟩
   rw [hcs] at HQ HTOT HKM HOUT
   have HLT:Hid (M < wr.heap.size):=Lib.hid HQ.out.lt
   have hkl:=HKL.out
   have hk0:=HK0.out
   have hk00:=H0.out
   clear hcs hq hi hin HI HG0
   have q2:decide ((64:Int) < (ks.length:Int))=false:=by rw [decide_eq_false_iff_not];omega
   go_wp2_with (first
    | (at_len;refine jpw HQ.out HO.out HKM.out rfl _ rfl rfl ?_)
    | (go_at_call 69;((with_reducible refine (jln _ _).mono ?_);rintro e2 w2 ⟨rfl,rfl⟩))
    | (go_at_call 68;((with_reducible refine (jhk (HQ.out.below (by with_reducible repeat first|exact bR|assumption|apply bA|apply bD|apply bN|refine bC ?_ (by go_size)|refine bS ?_ ‹_›)) HO.out HKM.out HK0.out (by omega) (by simp)).mono ?_);rintro e3 w3 ⟨g3,c3,rfl,hg3,hz3,hcell3,hb3⟩)))
   have hbwr:Below wr.heap.size wr w3:=ja3 (ja7 (ja7 (Below.refl _ _) _) _) hb3
   have hbw3:Below w.heap.size w w3:=ja3 hb hbwr
   have c0:w3.cell? ⟨wr.heap.size,0,none⟩=some (bs g0):=ja6 hb3 (by simp)
   have c1:w3.cell? ⟨wr.heap.size,1,none⟩=some (.int .i64 mass):=ja6 hb3 (by simp)
   have c2:w3.cell? ⟨wr.heap.size,2,none⟩=some (.slice none 0 0):=ja6 hb3 (by simp)
   have cf:∀o,w3.frozen? ⟨wr.heap.size,o,none⟩=false:=fun o=>jax hb3 (by simp;omega) (fun o=>by simp [go_sem]) o
   have hNL:jch w3 wr.heap.size:=jgn hb3
   have r0:=ja6 hbwr e0
   have r1:=ja6 hbwr e1
   have r2:=ja6 hbwr e2
   have rf:=fun o=>jax hbwr hsz f0 o
   have HQ3:=Lib.hid (HQ.out.below hbwr)
   have hz14:wr.heap.size < w3.heap.size:=by have:=hb3.size;simp at this;omega
   have hM14:=HLT.out
   have HN14:=Lib.hid hNL
   obtain ⟨B14,hB14⟩:∃x,wr.heap.size=x:=⟨_,rfl⟩
   rw [hB14] at c0 c1 c2 cf HN14 hsz hg3 hz14 hM14
   simp only [hB14]
   clear hb hb3 hbwr e0 e1 e2 f0 HQ hNL HLT hB14 k0 k1 k2
   go_loopw [80] (fun u wx=>∃(j:Nat) (Ao:Option Addr) (co:Nat),u= .int .i64 (j:Int)∧j≤ks.length∧w3.grownBy wx (some B14)∧wx.cell? ⟨B14,0,none⟩=some (bs g0)∧wx.cell? ⟨B14,1,none⟩=some (.int .i64 mass)∧wx.cell? ⟨B14,2,none⟩=some (.slice Ao j co)∧(∀o,wx.frozen? ⟨B14,o,none⟩=false)
    ∧jgT wx w3.heap.size (.slice Ao j co) j (jdk.take j)) (fun u _=>ks.length - (intOf u).toNat)
   case atStart=>exact ⟨0,none,0,rfl,Nat.zero_le _,⟨rfl,rfl,rfl,Nat.le_refl _,fun _ _ _=>rfl⟩,c0,c1,c2,cf,World.ownsRow_nil _ _ _ _⟩
   case round=>
    obtain ⟨j,Ao,co,rfl,hjl,hg,d0,d1,d2,df,how⟩:=hrel
    have HOW:=Lib.hid how
    have hbx:Below w.heap.size w wr:=Below.trans hbw3 (jap hg hbw3.size (fun k hk=>by cases hk;exact Nat.le_of_lt hsz))
    have hzx:B14 < wr.heap.size:=Nat.lt_of_lt_of_le hz14 hg.size
    clear how
    by_cases hj:j < ks.length
    ·have p1:decide (j < ks.length)=true:=by simpa using hj
     have HJ:=Lib.hid hj
     have HQx:=Lib.hid (HQ3.out.grown HN14.out (nl hM14) hg)
     have hkey:=hg.cell (hcell3 j hj) (by simp;omega)
     obtain ⟨o1,o2,o3,o4⟩:=HOUT.out j hj
     have hyk:ks.getD j []∈ks:=jfY hj
     have HT:=Lib.hid (HTOT.out (ks.getD j []))
     have HPR:Hid (jdk.take j++[((ks.getD j []),(jdk.getD j ([],[])).2)]=jdk.take (j+1)):=Lib.hid (by
      rw [jhX (l:=jdk) (i:=j) (d:=([],[])) (r:=(ks.getD j [],(jdk.getD j ([],[])).2)) (by rw [HOL.out];exact hj) (by rw [←o1])])
     obtain ⟨y,hy⟩:∃y,ks.getD j []=y:=⟨_,rfl⟩
     obtain ⟨tx,htx⟩:∃t,(jdk.getD j ([],[])).2=t:=⟨_,rfl⟩
     rw [hy] at hkey o2 o3 o4 hyk HT HPR
     rw [htx] at o3 HPR
     obtain ⟨v0,hv0,s9,A9,n9,c9,t9,B9,m9,d9,rfl,hr9⟩:=HQx.out.val y ((HKM.out y).1 hyk)
     have HAT:=Lib.hid hv0
     have HR9:=Lib.hid hr9
     obtain ⟨z,hz⟩:∃z,tot cs y / ((mass:Int):Rat)=z:=⟨_,rfl⟩
     rw [hz] at o2 o3 o4
     have HZ:=Lib.hid hz
     have HSQ:=Lib.hid o2
     have HGT:=Lib.hid o3
     have HGE:=Lib.hid o4
     have HSM:Hid (SmallQ ((mass:Int):Rat)):=Lib.hid (jco (by have:=HMB.out;omega) (by have:=HMB.out;omega))
     have HM0:Hid (((mass:Int):Rat)≠0):=Lib.hid (by have:=HMB.out.1;simp;omega)
     have HYL:Hid (y.length≤maxLen):=Lib.hid (HYS.out y hyk)
     clear o1 o2 o3 o4 hyk hy htx hv0 hr9 hz hj
     go_upto_region 24 with (fail)
     refine ja4 (fun w'=>Below wr.heap.size wr w') [] (by kernel_rfl) ?_
     refine tb 0 (.map (some M)) [] rfl (by kernel_rfl) (fun _ _ _ h=>h) (by rfl) (fun _ hcS hfS=>by go_simp) (by with_reducible repeat first|exact bR|assumption|apply bA|apply bD|apply bN|refine bC ?_ (by go_size)|refine bS ?_ ‹_›) ?_
     simp only [Act.put,pA,pB,pC,pD,pE,pF]
     refine tb 1 (bs y) [] rfl (by kernel_rfl) (fun _ _ _ h=>h) (by rfl) (fun _ hcS hfS=>by go_simp) (by with_reducible repeat first|exact bR|assumption|apply bA|apply bD|apply bN|refine bC ?_ (by go_size)|refine bS ?_ ‹_›) ?_
     simp only [Act.put,pA,pB,pC,pD,pE,pF]
     refine jaz [] (i:=2) (v:=fv s9 A9 n9 c9 t9 B9 m9 d9) rfl (by kernel_rfl) (by kernel_rfl) (by kernel_rfl) (by kernel_rfl) (by kernel_rfl) (fun _ _ _ h=>h) (Or.inl ⟨by rfl,fun w' hS'=>jkL (HQx.out.below hS') HYL.out HAT.out (.tmp 85) (.tmp 86) rfl rfl rfl⟩) (by with_reducible repeat first|exact bR|assumption|apply bA|apply bD|apply bN|refine bC ?_ (by go_size)|refine bS ?_ ‹_›) ?_
     simp only [Act.put,pA,pB,pC,pD,pE,pF]
     refine tb 3 (.int .i64 mass) [] rfl (by kernel_rfl) (fun _ _ _ h=>h) (by rfl) (fun _ hcS hfS=>by go_simp) (by with_reducible repeat first|exact bR|assumption|apply bA|apply bD|apply bN|refine bC ?_ (by go_size)|refine bS ?_ ‹_›) ?_
     simp only [Act.put,pA,pB,pC,pD,pE,pF]
     refine rd1 4 (by kernel_rfl) rfl (fun K hK=> ?_)
     go_simp
     go_wp2_with (go_at_call 66;((with_reducible refine (jcN HSM.out).mono ?_);rintro e4 w4 ⟨rfl,hb4⟩);obtain ⟨hc4,hf4⟩:=ja0 hb4;(try simp only [dw] at hc4 hf4))
     refine hK.out _ _ (fun _=>(by with_reducible repeat first|exact bR|assumption|apply bA|apply bD|apply bN|refine bC ?_ (by go_size)|refine bS ?_ ‹_›)) ?_
     clear hK K
     refine rd1 5 (by kernel_rfl) rfl (fun K hK=> ?_)
     go_simp
     go_wp2_with (go_at_call 70;((with_reducible refine (jbK 82000 1 HZ.out (HR9.out.below (by with_reducible repeat first|exact bR|assumption|apply bA|apply bD|apply bN|refine bC ?_ (by go_size)|refine bS ?_ ‹_›)) (HSM.out.rep _) HT.out HSM.out.sz (by omega) HM0.out).mono ?_);rintro e5 w5 ⟨s5,A5,n5,c5,t5,B5,m5,d5,rfl,⟨hr5,hq5⟩,hb5⟩);obtain ⟨hc5,hf5⟩:=ja0 hb5;(try simp only [dw] at hc5 hf5))
     refine hK.out _ _ (fun _=>(by with_reducible repeat first|exact bR|assumption|apply bA|apply bD|apply bN|refine bC ?_ (by go_size)|refine bS ?_ ‹_›)) ?_
     clear hK K
     refine rd1 6 (by kernel_rfl) rfl (fun K hK=> ?_)
     go_simp
     go_wp2_with (go_at_call 30;((with_reducible refine (jdj HGT.out HGE.out ⟨hr5,hq5⟩ (HE.out.below (by with_reducible repeat first|exact bR|assumption|apply bA|apply bD|apply bN|refine bC ?_ (by go_size)|refine bS ?_ ‹_›)) HSQ.out).mono ?_);rintro e6 w6 ⟨rfl,hb6⟩);obtain ⟨hc6,hf6⟩:=ja0 hb6;(try simp only [dw] at hc6 hf6))
     refine hK.out _ _ (fun _=>(by with_reducible repeat first|exact bR|assumption|apply bA|apply bD|apply bN|refine bC ?_ (by go_size)|refine bS ?_ ‹_›)) ?_
     clear hK K
     refine tb 7 (.tuple #[bs tx, .int .i64 0]) [] rfl (by kernel_rfl) (fun _ _ _ h=>h) (by rfl) (fun _ hcS hfS=>by go_simp) (by with_reducible repeat first|exact bR|assumption|apply bA|apply bD|apply bN|refine bC ?_ (by go_size)|refine bS ?_ ‹_›) ?_
     simp only [Act.put,pA,pB,pC,pD,pE,pF]
     refine tb 8 (bs tx) [] rfl (by kernel_rfl) (fun _ _ _ h=>h) (by rfl) (fun _ hcS hfS=>by go_simp) (by with_reducible repeat first|exact bR|assumption|apply bA|apply bD|apply bN|refine bC ?_ (by go_size)|refine bS ?_ ‹_›) ?_
     simp only [Act.put,pA,pB,pC,pD,pE,pF]
     refine tb 9 (.int .i64 0) [] rfl (by kernel_rfl) (fun _ _ _ h=>h) (by rfl) (fun _ hcS hfS=>by go_simp) (by with_reducible repeat first|exact bR|assumption|apply bA|apply bD|apply bN|refine bC ?_ (by go_size)|refine bS ?_ ‹_›) ?_
     simp only [Act.put,pA,pB,pC,pD,pE,pF]
     refine rd1 10 (by kernel_rfl) rfl (fun K hK=> ?_)
     go_simp
     refine hK.out _ _ (fun _=>(by with_reducible repeat first|exact bR|assumption|apply bA|apply bD|apply bN|refine bC ?_ (by go_size)|refine bS ?_ ‹_›)) ?_
     clear hK K
     refine rd1 11 (by kernel_rfl) rfl (fun K hK=> ?_)
     go_simp
     refine hK.out _ _ (fun _=>(by with_reducible repeat first|exact bR|assumption|apply bA|apply bD|apply bN|refine bC ?_ (by go_size)|refine bS ?_ ‹_›)) ?_
     clear hK K
     refine ja2 (by kernel_rfl) ?_ _
     have bW6:Below wr.heap.size wr w6:=(by with_reducible repeat first|exact bR|assumption|apply bA|apply bD|apply bN|refine bC ?_ (by go_size)|refine bS ?_ ‹_›)
     have k0:=ja6 bW6 d0
     have k1:=ja6 bW6 d1
     have k2:=ja6 bW6 d2
     have kf:=fun o=>jax bW6 hzx df o
     have hz6:=Nat.lt_of_lt_of_le hzx bW6.size
     have hg6:w3.grownBy (w6.alloc (.cells #[bs y,bs tx] 56)) (some B14):=(hg.trans (jfz bW6 _)).trans (World.grownBy_alloc _ _ _)
     have hne14:some B14≠(Value.slice Ao j co).ownBlock:=fun e=>by have:=jhy HOW.out _ e.symm;omega
     go_wp2_with (at_builtin;refine jcH (x:=(y,tx)) rfl _ _ rfl rfl rfl rfl (HOW.out.below (ja7 bW6 _)) (by have:=HKL.out;have:=HJ.out;omega) hg6.size (by simp) (by simp) ?_;intro A7 c7 w7 ho7 hg7 hl7;have q0:=hg7.cell (jay k0 _) hne14;have q1:=hg7.cell (jay k1 _) hne14;have q2:=hg7.cell (jay k2 _) hne14;have qf:(∀o,w7.frozen? ⟨B14,o,none⟩=false):=fun o=>(jbl hg7 (by rw [World.size_alloc];omega) hne14).trans (jcg hz6 kf _ o))
     have hne7:some B14≠(Value.slice A7 (j+1) c7).ownBlock:=fun e=>by
      rcases hl7 with h|h
      ·exact hne14 (e.trans h)
      ·rw [h] at e
       have hz:=hg.size
       have hzz:=bW6.size
       simp at e;omega
     exact ⟨⟨j+1,A7,c7,by simp,HJ.out,(jkh hg6 hg7 (jhy HOW.out)).trans (jck _),by simp [go_sem,q0],by simp [go_sem,q1],by simp [go_sem,q2],by intro o;simp [go_sem,qf],
      by rw [←HPR.out];exact World.ownsRow.kept ho7 (jck _) (by cases hv:(Value.slice A7 (j+1) c7).ownBlock with
       | none=>simp
       | some g=>exact .inr (fun e=>hne7 (by rw [hv];exact e.symm)))⟩,by have:=HJ.out;simp [intOf];omega⟩
    ·have p1:decide (j < ks.length)=false:=by simp;omega
     have e:j=ks.length:=by omega
     subst e
     have how:=HOW.out
     rw [List.take_of_length_le (by rw [HOL.out];omega)] at how
     have s0:=hg.cell r0 (by simp;omega)
     have s1:=hg.cell r1 (by simp;omega)
     have s2:=hg.cell r2 (by simp;omega)
     have sf:∀o,wr.frozen? ⟨w.heap.size,o,none⟩=false:=fun o=>(jbl hg (by have:=hbw3.size;omega) (by simp;omega)).trans (rf o)
     have hrow:=jhy how
     have hner:some w.heap.size≠(Value.slice Ao ks.length co).ownBlock:=fun e=>by have:=hrow _ e.symm;omega
     clear hj HOW
     go_wp2
     refine bodyPost_ret (v:= .tuple #[.agg #[bs g0, .int .i64 mass, .slice Ao ks.length co], .int .i64 0]) (by simp [results,Tryz.results20,go_sem,s0,s1,s2,sf]) rfl ?_
     have hg3w:wr.grownBy (((wr.setCell ⟨w.heap.size,0,none⟩ (bs g0)).setCell ⟨w.heap.size,1,none⟩ (.int .i64 mass)).setCell ⟨w.heap.size,2,none⟩ (.slice Ao ks.length co)) (some w.heap.size):=((jck _).trans (jck _)).trans (jck _)
     have how3:jgT (((wr.setCell ⟨w.heap.size,0,none⟩ (bs g0)).setCell ⟨w.heap.size,1,none⟩ (.int .i64 mass)).setCell ⟨w.heap.size,2,none⟩ (.slice Ao ks.length co)) w3.heap.size (.slice Ao ks.length co) ks.length jdk:=World.ownsRow.kept how hg3w (by
      cases hv:(Value.slice Ao ks.length co).ownBlock with
      | none=>simp
      | some g=>exact .inr (fun e=>hner (by rw [hv];exact e.symm)))
     obtain ⟨A',d',e',hv⟩:=how3.pv HOL.out hk0
     cases e'
     exact ⟨_,_,rfl,hv,(by with_reducible repeat first|exact bR|assumption|apply bA|apply bD|apply bN|refine bC ?_ (by go_size)|refine bS ?_ ‹_›)⟩
end
end Go.Proofs.YthciialjockjmaaGreatDoor
