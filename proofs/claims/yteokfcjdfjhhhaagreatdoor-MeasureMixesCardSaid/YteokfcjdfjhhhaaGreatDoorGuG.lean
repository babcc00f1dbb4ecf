/- Parts. -/
import Derived.Test.YteokfcjdfjhhhaaGreatDoorGrG
set_option linter.all false
set_option maxRecDepth 100000
set_option maxHeartbeats 8000000
namespace Go.Proofs.YteokfcjdfjhhhaaGreatDoor
open Go Go.RowKit Go.Sort

theorem jmy {q x:List UInt8} (h:jcZ (some q) x=false):q < x:=by
 simp only [jcZ,jgk,bytesLess_eq,Bool.or_eq_false_iff,decide_eq_false_iff_not,beq_eq_false_iff_ne] at h;exact Classical.byContradiction fun hc=>h.2 (List.le_antisymm (List.not_lt.1 hc) (List.not_lt.1 h.1))
theorem jhh:∀{l:List (List UInt8×List UInt8)} {s:Rat} {p:Option (List UInt8)},jgL s p l=0→(∀q,p=some q→∀x∈l,q < x.1)∧l.Pairwise (fun a b=>a.1 < b.1)
 | [],_,_,_=>⟨fun _ _ x hx=>(by simp at hx),List.Pairwise.nil⟩
 | y::r,s,p,h=>by
   rw [jgL] at h;split at h
   ·omega
   ·split at h
    ·omega
    ·rename_i h2
     split at h
     ·omega
     ·split at h
      ·omega
      ·obtain ⟨k1,k2⟩:=jhh h;have k3:=k1 _ rfl;refine ⟨fun q hq x hx=> ?_,List.pairwise_cons.2 ⟨k3,k2⟩⟩;subst hq;have h4:q < y.1:=jmy (by simpa using h2);rcases List.mem_cons.1 hx with rfl|hx
       ·exact h4
       ·exact List.lt_trans h4 (k3 x hx)
theorem jhx {ps:List (List UInt8×List UInt8)} (h:jaw ps=0):(ps.map (·.1)).Nodup:=by
 unfold jaw at h;split at h
 ·omega
 ·split at h
  ·omega
  ·have:=(jhh h).2;rw [List.Nodup,List.pairwise_map];exact this.imp (fun {a b} (hab:a.1 < b.1) (e:a.1=b.1)=>List.lt_irrefl b.1 (by rw [e] at hab;exact hab))
theorem jkP (k:Nat) (hk:0 < k):Dz k 0:=by
 have:1 < 10^k:=Nat.one_lt_pow (by omega) (by omega);exact ⟨by simpa using (by omega),by simpa using (by omega)⟩
theorem jes {m:Int} (h:1≤m∧m≤999999999):Dz 9 ((m:Int):Rat):=⟨by simp;omega,by simp⟩
theorem jfM (a b:List (List UInt8×Rat)) (y:List UInt8):tot (a++b) y=tot a y+tot b y:=by
 induction a with
 | nil=>simp [tot,Rat.zero_add]
 | cons p r ih=>rw [List.cons_append,tot,ih,tot,Rat.add_assoc]
theorem jjp {k:Nat} (hk:0 < k) (y:List UInt8):∀{cs:List (List UInt8×Rat)},(cs.map (·.1)).Nodup→(∀c∈cs,Dz k c.2)→Dz k (tot cs y)
 | [],_,_=>jkP k hk
 | p::r,hn,h=>by
   rw [List.map_cons,List.nodup_cons] at hn;have ih:=jjp hk y hn.2 (fun c hc=>h c (List.mem_cons_of_mem _ hc));rw [tot];by_cases e:p.1=y
   ·rw [if_pos e,jei (by
     rw [←Bool.not_eq_true];intro hh;obtain ⟨c,hc,he⟩:=List.any_eq_true.1 hh
     exact hn.1 (List.mem_map.2 ⟨c,hc,by rw [e];simpa using he⟩)),Rat.add_zero]
    exact h p (List.mem_cons_self ..)
   ·rw [if_neg e,Rat.zero_add];exact ih
structure RMix (w:World) (A:Option Addr) (n:Nat) (ls:List Lay) (d:Nat):Prop where
 view:Lv w A n ls
 ok:∀x∈ls,jaj x=0
 dz:∀x∈ls,∀p∈x.shares,Dz d (numQ p.2)
 d0:0 < d
 lim:(n+2)*(d+10)≤9000
 nle:n≤100
section
variable {w:World} {A:Option Addr} {n d:Nat} {ls:List Lay}
theorem RMix.below {W:World} (h:RMix w A n ls d) (hb:Below w.heap.size w W):RMix W A n ls d:=⟨h.view.below hb,h.ok,h.dz,h.d0,h.lim,h.nle⟩
theorem RMix.nums (h:RMix w A n ls d):0 < (n+2)*(d+10)∧d≤9000∧0 < d+9∧d+9≤9000:=by
 have h1:=h.lim;have h2:d+10≤(n+2)*(d+10):=Nat.le_mul_of_pos_left _ (by omega);obtain ⟨x,hx⟩:∃x,(n+2)*(d+10)=x:=⟨_,rfl⟩;rw [hx] at h1 h2 ⊢;omega
theorem RMix.layer (h:RMix w A n ls d) {i:Nat} (hi:i < n):(ls.getD i jaA)∈ls∧(1≤(ls.getD i jaA).mass∧(ls.getD i jaA).mass≤999999999)∧(ls.getD i jaA).shares.length≤64∧jaw (ls.getD i jaA).shares=0:=by
 have hm:=jbu (d:=jaA) (show i < ls.length by rw [h.view.len];exact hi);have h1:=jan (h.ok _ hm);exact ⟨hm,⟨h1.2.1,h1.2.2.1⟩,(jav h1.2.2.2).1.2,h1.2.2.2⟩
theorem RMix.cdz (h:RMix w A n ls d) {x:Lay} (hx:x∈ls) {k:Nat} {c:List UInt8×Rat} (hc:c∈jb1 x.mass (x.shares.take k)):Dz (d+9) c.2:=by
 unfold jb1 at hc;obtain ⟨p,hp,rfl⟩:=List.mem_map.1 hc;have h1:=jan (h.ok _ hx);exact (h.dz x hx p (List.mem_of_mem_take hp)).mul (jes ⟨h1.2.1,h1.2.2.1⟩)
theorem RMix.tdz (h:RMix w A n ls d) {x:Lay} (hx:x∈ls) (k:Nat) (y:List UInt8):Dz (d+9) (tot (jb1 x.mass (x.shares.take k)) y):=by
 have hn:=jhx (jan (h.ok _ hx)).2.2.2;refine jjp (by have:=h.d0;omega) y ?_ (fun c hc=>h.cdz hx hc);have:(jb1 x.mass (x.shares.take k)).map (·.1)=(x.shares.map (·.1)).take k:=by unfold jb1;rw [List.map_map,List.map_take];rfl
 rw [this];exact hn.sublist (List.take_sublist k _)
theorem RMix.idz (h:RMix w A n ls d) (y:List UInt8):∀{i:Nat},i≤n→Dz (i*(d+10)+1) (tot (jal (ls.take i)) y)
 | 0,_=>by simpa [jal,tot] using jkP 1 (by omega)
 | i+1,hi=>by
   have h1:=RMix.idz h y (i:=i) (by omega);have hm:=(h.layer (i:=i) (by omega)).1;have h2:=h.tdz hm (ls.getD i jaA).shares.length y;rw [List.take_length] at h2;rw [←jfF (by rw [h.view.len];omega) rfl,jfM];exact (h1.add h2).mono (by rw [Nat.add_mul];omega)
theorem RMix.adz (h:RMix w A n ls d) (y:List UInt8) {i k:Nat} (hi:i < n):Dz ((n+2)*(d+10)) (tot (jfg ls i k) y):=by
 unfold jfg;rw [jfM];refine ((h.idz y (Nat.le_of_lt hi)).add (h.tdz (h.layer hi).1 k y)).mono ?_;have h1:i*(d+10)≤n*(d+10):=Nat.mul_le_mul_right _ (by omega);rw [Nat.add_mul];omega
theorem RMix.all (h:RMix w A n ls d) (y:List UInt8):Dz (n*(d+10)+1) (tot (jal ls) y):=by
 have:=h.idz y (Nat.le_refl n);rwa [List.take_of_length_le (by rw [h.view.len];omega)] at this
theorem jlY:∀{cs:List (List UInt8×Rat)} {ks:List (List UInt8)},ks.Nodup→(∀x∈ks,jbF cs x=true)→ks.length≤cs.length
 | [],ks,_,hm=>by
   cases ks with
   | nil=>simp
   | cons y r=>exact absurd (hm y (List.mem_cons_self ..)) (by simp [jbF])
 | p::r,ks,hn,hm=>by
   have h1:=jlY (cs:=r) (ks:=ks.erase p.1) (hn.erase _) (fun x hx=>by
    obtain ⟨k1,k2⟩:=hn.mem_erase_iff.1 hx;have:=hm x k2;simp only [jbF,List.any_cons,Bool.or_eq_true,beq_iff_eq] at this ⊢
    exact this.resolve_left fun e=>k1 e.symm)
   by_cases hp:p.1∈ks
   ·rw [List.length_erase_of_mem hp] at h1;rw [List.length_cons];omega
   ·rw [List.erase_of_not_mem hp] at h1;rw [List.length_cons];omega
theorem jhA (h:RMix w A n ls d) {i k:Nat} (hi:i < n):(jfg ls i k).length≤64*(n+1):=by
 have h1:=jde (ls:=ls.take i) (fun x hx=>(jav (jan (h.ok _ (List.mem_of_mem_take hx))).2.2.2).1.2);have h2:=(h.layer hi).2.2.1;have h3:((ls.getD i jaA).shares.take k).length≤64:=by rw [List.length_take];omega
 have h4:(ls.take i).length≤n:=by rw [List.length_take,h.view.len];omega
 unfold jfg;rw [List.length_append,jdR];omega
theorem jpw {base:Nat} {c k m:Nat} {ks:List (List UInt8)} {cs:List (List UInt8×Rat)} {y:List UInt8} {r:Rat} (ho:jc0 w base (.slice A ks.length c) ks.length (lots ks cs)) (hz:ks.length=0→A=none∧c=0) (hn:cs.length≤10000) (hs:Ordered ks) (hm:∀x,x∈ks↔jbF cs x=true)
  (hx:Dz k (tot cs y)) (hr:Dz m r) (hk:0 < k) (hm0:0 < m) (hk2:k≤9000) (hm2:m≤9000):
  Calls Tryz.prog 51 #[.slice A ks.length c,bs y,bs (tq r)] w (Put w (cs++[(y,r)])):=by
 have hl:=jlY hs.nodup (fun x hx=>(hm x).1 hx);rcases Nat.eq_zero_or_pos ks.length with h0|h0
 ·obtain ⟨rfl,rfl⟩:=hz h0;obtain rfl:=List.length_eq_zero_iff.1 h0
  have hc:cs=[]:=by
   cases cs with
   | nil=>rfl
   | cons p q=>exact absurd ((hm p.1).2 (by simp [jbF])) (by simp)
  subst hc;exact jpW
 ·obtain ⟨g,rfl,hcc,_⟩:=ho.full h0;obtain ⟨A',c',e,hv⟩:=ho.pv jbM h0;cases e
  exact jsh h0 hv hcc (by omega) hs hm hx hr hk hm0 hk2 hm2
structure LotQ (w:World) (base:Nat) (A:Option Addr) (c:Nat) (ks:List (List UInt8)) (cs:List (List UInt8×Rat)):Prop where
 own:jc0 w base (.slice A ks.length c) ks.length (lots ks cs)
 nil:ks.length=0→A=none∧c=0
 ord:Ordered ks
 keys:∀x,x∈ks↔jbF cs x=true
theorem LotQ.below {W:World} {base c:Nat} {ks:List (List UInt8)} {cs:List (List UInt8×Rat)} (h:LotQ w base A c ks cs) (hb:Below w.heap.size w W):LotQ W base A c ks cs:=⟨h.own.below hb,h.nil,h.ord,h.keys⟩
theorem jqE {W:World} {base c k m:Nat} {ks:List (List UInt8)} {cs:List (List UInt8×Rat)} {y:List UInt8} {r:Rat} (h:LotQ W base A c ks cs) (hbw:base≤W.heap.size) (hn:cs.length≤10000) (hx:Dz k (tot cs y)) (hr:Dz m r) (hk:0 < k) (hm0:0 < m) (hk2:k≤9000) (hm2:m≤9000):
  Calls Tryz.prog 51 #[.slice A ks.length c,bs y,bs (tq r)] W fun e w'=>∃A' c' ks',e= .returned (.slice A' ks'.length c')∧LotQ w' base A' c' ks' (cs++[(y,r)])∧Below W.heap.size W w':=
 (jpw h.own h.nil hn h.ord h.keys hx hr hk hm0 hk2 hm2).mono fun e w' ⟨A',c',ks',e1,h1,h2,h3,h4⟩=>⟨A',c',ks',e1,⟨jdy h1 hbw,fun h0=>by
   have:=(h3 y).2 (by simp [jbF]);rw [List.length_eq_zero_iff.1 h0] at this
   exact absurd this (by simp),h2,h3⟩,h4⟩
set_option maxHeartbeats 16000000 in
theorem jp6 {c:Nat} (h:RMix w A n ls d):
  Calls Tryz.prog 16 #[.slice A n c] w fun e w'=>∃A' c' ks,e= .returned (.slice A' ks.length c')∧LotQ w' w.heap.size A' c' ks (jal ls)∧Below w.heap.size w w':=by
 have H:=qh h;clear h;go_enter Tryz.func16,Tryz.ntmps16;go_wp2
 go_loopw [3,4] (fun v u wr=>∃(i:Nat) (B:Option Addr) (e:Nat) (ks:List (List UInt8)),u= .int .i64 (i:Int)∧v= .slice B ks.length e∧i≤n∧Below w.heap.size w wr∧LotQ wr w.heap.size B e ks (jal (ls.take i))) (fun _ u _=>n - (intOf u).toNat)
 case atStart=>exact ⟨0,none,0,[],rfl,rfl,Nat.zero_le _,bi,⟨World.ownsRow_nil _ _ _ _,fun _=>⟨rfl,rfl⟩,⟨List.nodup_nil,List.Pairwise.nil⟩,fun x=>by simp [jal,jbF]⟩⟩
 case round=>
  obtain ⟨i,B,e,ks,rfl,rfl,hin,hb,hq⟩:=hrel;have _:=bm hb
  rename World=>wo
  have HQ0:=qh hq;clear hq;by_cases hi:i < n
  ·have p0:decide (i < n)=true:=by simpa using hi
   have HI:=qh hi;have HL:=qh (H.out.layer hi);have HN:=qh (jhA H.out (k:=0) hi);obtain ⟨b,o,B0,d0,rfl,k0,k1,k2,kp⟩:=H.out.view.low hi (Below.refl _ _);have HP:=qh kp;obtain ⟨m,hm⟩:∃x:Nat,(ls.getD i jaA).mass=(x:Int):=⟨(ls.getD i jaA).mass.toNat,by have:=HL.out.2.1;omega⟩;obtain ⟨l,hl⟩:∃x,(ls.getD i jaA).shares.length=x:=⟨_,rfl⟩;have HMM:=qh hm;have HLL:=qh hl;rw [hm] at k1;rw [hl] at k2 HP;have HC:=qh (And.intro k1 k2);clear hm hl kp hi k0 k1 k2;have hn100:=H.out.nle;go_wp2
   go_loopw [3,5] (fun v u wr=>∃(k:Nat) (B:Option Addr) (e:Nat) (ks:List (List UInt8)),u= .int .i64 (k:Int)∧v= .slice B ks.length e∧k≤l∧Below w.heap.size w wr∧LotQ wr w.heap.size B e ks (jfg ls i k)) (fun _ u _=>l - (intOf u).toNat)
   case atStart=>exact ⟨0,B,e,ks,rfl,rfl,Nat.zero_le _,hb,by rw [jh0];exact HQ0.out⟩
   case round=>
    obtain ⟨k,B,e,ks,rfl,rfl,hkl,hbo,hq⟩:=hrel;have _:=bm hbo;have HQ:=qh hq;have hii:=HI.out;have c1:=ja5 hbo HC.out.1;have c2:=ja5 hbo HC.out.2;clear hq HQ0 hb;by_cases hk:k < l
    ·have p1:decide (k < l)=true:=by simpa using hk
     have HK:=qh hk;have hl64:=HL.out.2.2.1;rw [HLL.out] at hl64;obtain ⟨b',o',rfl,hbl',hcell⟩:=(HP.out.below hbo).at_ (by omega);obtain ⟨hx,hy⟩:=hcell k hk;have hmem:((ls.getD i jaA).shares.getD k ([],[]))∈(ls.getD i jaA).shares:=jbu (by rw [HLL.out];exact hk);have hnum:=jbQ ((jav HL.out.2.2.2).2 _ hmem).2.1;have hdz:=H.out.dz _ HL.out.1 _ hmem;have HST:=qh (jhK (k:=k) (p:=(ls.getD i jaA).shares.getD k ([],[])) (by rw [HLL.out];exact hk) rfl);rw [HMM.out] at HST;obtain ⟨x1,hx1⟩:∃x,((ls.getD i jaA).shares.getD k ([],[])).1=x:=⟨_,rfl⟩;obtain ⟨x2,hx2⟩:∃x,((ls.getD i jaA).shares.getD k ([],[])).2=x:=⟨_,rfl⟩;rw [hx1] at hx HST;rw [hx2] at hy hdz hnum HST;obtain ⟨v,hv⟩:∃v,numQ x2=v:=⟨_,rfl⟩;rw [hv] at hnum hdz HST;have hm9:=HL.out.2.1;rw [HMM.out] at hm9;have HT:=qh (H.out.adz x1 (k:=k) hii);have HCL:=qh (jhA H.out (k:=k) hii);have HNU:=qh H.out.nums;have HF:=qh (fun W=>jhs (w:=W) (n:=m) (by omega));have HMU:=qh (fun W=>jpe (w:=W) hdz (jes hm9) H.out.d0 (by omega) HNU.out.2.1 (by omega));have HPR:=qh (hdz.mul (jes hm9));have HCL2:Hid ((jfg ls i k).length≤10000):=qh (by have h1:=HCL.out;have:=H.out.nle;omega);have zb:b < wr.heap.size:=World.block_lt_of_cell? wr _ c1;have HPU:=qh (fun W (hW:Below w.heap.size w W) (hQ:LotQ W w.heap.size B e ks (jfg ls i k))=>jqE hQ hW.size HCL2.out HT.out HPR.out HNU.out.1 HNU.out.2.2.1 H.out.lim HNU.out.2.2.2);rw [HST.out] at HPU;rw [←hnum.eq] at HMU;obtain ⟨M,hM⟩:∃M,tq ((m:Int):Rat)=M:=⟨_,rfl⟩;obtain ⟨V,hV⟩:∃V,tq (v*(((m:Int):Int):Rat))=V:=⟨_,rfl⟩;unfold QP at HF HMU;rw [hM] at HF HMU;rw [hV] at HMU HPU;clear hcell hmem hx1 hx2 hv hnum hdz hm9 HT HCL HPR HST hM hV HNU;go_upto_region 8 with (fail)
     refine ja3 (fun w'=>Below wr.heap.size wr w') [] (by kernel_rfl) ?_;refine tb 0 (.slice B ks.length e) [] rfl (by kernel_rfl) pk rfl (by intros;go_simp) bq0 ?_;refine tb 1 (.slice (some ⟨b,o,none⟩) n c) [] rfl (by kernel_rfl) pk rfl (by intros;go_simp) bq0 ?_;refine tb 2 (.int .i64 (i:Int)) [] rfl (by kernel_rfl) pk rfl (by intros;go_simp) bq0 ?_;refine tb 3 (.pointer (some ⟨b,o+i*3,none⟩)) [] rfl (by kernel_rfl) pk rfl (by intros;go_simp) bq0 ?_;refine tb 4 (.pointer (some ⟨b,o+i*3+2,none⟩)) [] rfl (by kernel_rfl) pk rfl (by intros;go_simp) bq0 ?_;refine tb 5 (.slice (some ⟨b',o',none⟩) l d0) [] rfl (by kernel_rfl) pk rfl (by intros;go_simp) bq0 ?_;refine tb 6 (.int .i64 (k:Int)) [] rfl (by kernel_rfl) pk rfl (by intros;go_simp) bq0 ?_;refine tb 7 (.pointer (some ⟨b',o'+k*2,none⟩)) [] rfl (by kernel_rfl) pk rfl (by intros;go_simp) bq0 ?_;refine tb 8 (.pointer (some ⟨b',o'+k*2,none⟩)) [] rfl (by kernel_rfl) pk rfl (by intros;go_simp) bq0 ?_;refine tb 9 (bs x1) [] rfl (by kernel_rfl) pk rfl (by intros;go_simp) bq0 ?_;refine tb 10 (.slice (some ⟨b,o,none⟩) n c) [] rfl (by kernel_rfl) pk rfl (by intros;go_simp) bq0 ?_;refine tb 11 (.int .i64 (i:Int)) [] rfl (by kernel_rfl) pk rfl (by intros;go_simp) bq0 ?_;refine tb 12 (.pointer (some ⟨b,o+i*3,none⟩)) [] rfl (by kernel_rfl) pk rfl (by intros;go_simp) bq0 ?_;refine tb 13 (.pointer (some ⟨b,o+i*3+2,none⟩)) [] rfl (by kernel_rfl) pk rfl (by intros;go_simp) bq0 ?_;refine tb 14 (.slice (some ⟨b',o',none⟩) l d0) [] rfl (by kernel_rfl) pk rfl (by intros;go_simp) bq0 ?_;refine tb 15 (.int .i64 (k:Int)) [] rfl (by kernel_rfl) pk rfl (by intros;go_simp) bq0 ?_;refine tb 16 (.pointer (some ⟨b',o'+k*2,none⟩)) [] rfl (by kernel_rfl) pk rfl (by intros;go_simp) bq0 ?_;refine tb 17 (.pointer (some ⟨b',o'+k*2+1,none⟩)) [] rfl (by kernel_rfl) pk rfl (by intros;go_simp) bq0 ?_;refine tb 18 (bs x2) [] rfl (by kernel_rfl) pk rfl (by intros;go_simp) bq0 ?_;refine tb 19 (.slice (some ⟨b,o,none⟩) n c) [] rfl (by kernel_rfl) pk rfl (by intros;go_simp) bq0 ?_;refine tb 20 (.int .i64 (i:Int)) [] rfl (by kernel_rfl) pk rfl (by intros;go_simp) bq0 ?_;refine tb 21 (.pointer (some ⟨b,o+i*3,none⟩)) [] rfl (by kernel_rfl) pk rfl (by intros;go_simp) bq0 ?_;refine tb 22 (.pointer (some ⟨b,o+i*3+1,none⟩)) [] rfl (by kernel_rfl) pk rfl (by intros;go_simp) bq0 ?_;refine tb 23 (.int .i64 (m:Int)) [] rfl (by kernel_rfl) pk rfl (by intros;go_simp) bq0 ?_;simp only [ppq];refine rd1 24 (by kernel_rfl) rfl (fun K hK=> ?_);go_simp;go_wp2_with (go_at_call 46;(with_reducible refine mo0 (HF.out _) fun w1 hb1 hc1 hf1 _=> ?_))
     have sS1:=qh (bst bq0 hb1);refine hK.out _ _ (fun _=>sS1.out) ?_;clear hK K;refine rd1 25 (by kernel_rfl) rfl (fun K hK=> ?_);go_simp;go_wp2_with (go_at_call 52;(with_reducible refine mo0 (HMU.out _) fun w2 hb2 hc2 hf2 _=> ?_))
     have sS2:=qh (bst sS1.out hb2);refine hK.out _ _ (fun _=>sS2.out) ?_;clear hK K;refine rd1 26 (by kernel_rfl) rfl (fun K hK=> ?_);go_simp;go_wp2_with (go_at_call 51;(with_reducible refine (HPU.out _ (ja1 hbo sS2.out) (HQ.out.below sS2.out)).mono ?_);rintro e3 w3 ⟨B3,c3,ks3,rfl,h3,hb3⟩;have _:=bm hb3;have H3:=qh h3;clear h3)
     have sS3:=qh (bst sS2.out hb3);refine hK.out _ _ (fun _=>sS3.out) ?_;clear hK K;refine rd1 27 (by kernel_rfl) rfl (fun K hK=> ?_);go_simp;refine hK.out _ _ (fun _=>bi) ?_;clear hK K;refine ja2 (by kernel_rfl) ?_ _;go_wp2;exact ⟨⟨k+1,B3,c3,ks3,by simp,rfl,HK.out,ja1 hbo sS3.out,H3.out⟩,by have:=HK.out;simp [intOf];omega⟩
    ·have p1:decide (k < l)=false:=by simp;omega
     have hkl':k=l:=by omega
     have HEND:=qh (jjM (ls:=ls) (i:=i) (by rw [H.out.view.len];exact HI.out));rw [HLL.out,←hkl'] at HEND;rw [HEND.out] at HQ;clear hk HEND hkl';go_wp2
     go_roundw
     case rel=>exact ⟨i+1,B,e,ks,by simp,rfl,HI.out,hbo,HQ.out⟩
     case measure=>have:=HI.out;simp [intOf];omega
  ·have p0:decide (i < n)=false:=by simp;omega
   have e1:i=n:=by omega
   rw [e1,List.take_of_length_le (by rw [H.out.view.len];omega)] at HQ0;clear hi hin e1;go_wp2;go_ret;exact ⟨_,_,ks,rfl,HQ0.out,bi⟩
end

theorem jcc:∀{a b:List (List UInt8)},Ordered a→Ordered b→(∀x,x∈a↔x∈b)→a=b
 | [],b,_,_,h=>by
   cases b with
   | nil=>rfl
   | cons y r=>exact absurd ((h y).2 (List.mem_cons_self ..)) (by simp)
 | x::r,[],_,_,h=>absurd ((h x).1 (List.mem_cons_self ..)) (by simp)
 | x::r,y::s,ha,hb,h=>by
   obtain ⟨a1,a2⟩:=List.nodup_cons.1 ha.nodup;obtain ⟨b1,b2⟩:=List.nodup_cons.1 hb.nodup;obtain ⟨a3,a4⟩:=List.pairwise_cons.1 ha.le;obtain ⟨b3,b4⟩:=List.pairwise_cons.1 hb.le
   have e:x=y:=by
    rcases List.mem_cons.1 ((h x).1 (List.mem_cons_self ..)) with e|hx
    ·exact e
    ·rcases List.mem_cons.1 ((h y).2 (List.mem_cons_self ..)) with e|hy
     ·exact e.symm
     ·exact List.le_antisymm (a3 y hy) (b3 x hx)
   subst e;rw [jcc ⟨a2,a4⟩ ⟨b2,b4⟩ (fun z=>⟨fun hz=>((List.mem_cons.1 ((h z).1 (List.mem_cons_of_mem _ hz))).resolve_left fun e=>a1 (e ▸ hz)),fun hz=>((List.mem_cons.1 ((h z).2 (List.mem_cons_of_mem _ hz))).resolve_left fun e=>b1 (e ▸ hz))⟩)]
theorem jjK {α β:Type} {f:α→β} {l:List α} {j:Nat} {d:α} {e:β} (h:j < l.length):(l.map f).getD j e=f (l.getD j d):=by
 rw [List.getD_eq_getElem?_getD,List.getElem?_map,List.getD_eq_getElem?_getD (l:=l),List.getElem?_eq_getElem h];rfl
abbrev lyc (g:List UInt8) (m:Int) (A:Option Addr) (n c:Nat):Array Value:= #[bs g, .int .i64 m, .slice A n c]
def jcd:List Lay→Int
 | []=>0
 | x::r=>x.mass+jcd r
theorem jej (x:Lay):∀l:List Lay,jcd (l++[x])=jcd l+x.mass
 | []=>by simp [jcd]
 | y::r=>by rw [List.cons_append,jcd,jej x r,jcd];omega
theorem jdW:∀{l:List Lay},(∀x∈l,jaj x=0)→(l.length:Int)≤jcd l∧jcd l≤999999999*l.length
 | [],_=>by simp [jcd]
 | x::r,h=>by
   have h1:=jdW (l:=r) (fun y hy=>h y (List.mem_cons_of_mem _ hy));have h2:=jan (h x (List.mem_cons_self ..));rw [jcd,List.length_cons];omega
theorem ji2 {g:List UInt8}:∀{l:List Lay} {s:Int},(∀x∈l,x.grain=g)→jgq g s l=if 999999999 < s+jcd l then (0,4) else (s+jcd l,0)
 | [],s,_=>by rw [jgq,jcd,Int.add_zero]
 | x::r,s,h=>by
   rw [jgq,if_pos (h x (List.mem_cons_self ..)),ji2 (fun y hy=>h y (List.mem_cons_of_mem _ hy)),jcd,Int.add_assoc]
theorem jfL {g:List UInt8}:∀{l:List Lay} {s:Int},(∃x∈l,x.grain≠g)→jgq g s l=(0,16)
 | [],s,h=>by obtain ⟨x,hx,_⟩:=h;cases hx
 | x::r,s,h=>by
   rw [jgq];by_cases e:x.grain=g
   ·rw [if_pos e];refine jfL ?_;obtain ⟨y,hy,hne⟩:=h;rcases List.mem_cons.1 hy with rfl|hy
    ·exact absurd e hne
    ·exact ⟨y,hy,hne⟩
   ·rw [if_neg e]
def jbX (g:List UInt8) (l:List Lay):Bool:=l.any (fun x=>x.grain != g)
theorem jeY {g:List UInt8} {l:List Lay} {i:Nat} (h:i < l.length):jbX g (l.drop i)=((l.getD i jaA).grain != g || jbX g (l.drop (i+1))):=by
 rw [jaH (d:=jaA) h];rfl
theorem jk8 {g:List UInt8} {l:List Lay} (h:0 < l.length) (hg:(l.getD 0 jaA).grain=g):jbX g (l.drop 1)=jbX g l:=by
 have:=jeY (g:=g) (i:=0) h;rw [List.drop_zero,hg] at this;rw [this];simp
noncomputable def jg9 (ks:List (List UInt8)) (ls:List Lay):Int:=if ls.length=0 then 2 else if 64 < ls.length then 5 else if jab jaj ls≠0 then jab jaj ls else if jbX (ls.getD 0 jaA).grain ls=true then 16 else if 999999999 < jcd ls then 4 else if 64 < ks.length then 5 else 0
def jrY (d:Nat) (ls:List Lay):Prop:=∀x∈ls,∀p∈x.shares,p.2.length≤d
section
variable {w:World} {A:Option Addr} {n d c:Nat} {ls:List Lay} {ks:List (List UInt8)}
theorem jmL (hv:Lv w A n ls) (hk:jab jaj ls=0) (ht:jrY d ls) (hd0:0 < d) (hlim:(n+2)*(d+10)≤9000) (hn:n≤100):RMix w A n ls d:=
 ⟨hv,jay hk,fun x hx p hp=>(jbQ ((jav (jan (jay hk x hx)).2.2.2).2 p hp).2.1).dzl (ht x hx p hp) hd0,hd0,hlim,hn⟩
theorem jkq (c:Nat):Calls Tryz.prog 12 #[.slice A 0 c] w fun e w'=>e= .returned (.int .i64 2)∧Below w.heap.size w w':=by
 go_enter Tryz.func12,Tryz.ntmps12;go_wp2;go_ret;exact ⟨rfl,bi⟩
theorem jkA (hn:64 < n):Calls Tryz.prog 12 #[.slice A n c] w fun e w'=>e= .returned (.int .i64 5)∧Below w.heap.size w w':=by
 have q0:((n:Int)==0)=false:=by rw [beq_eq_false_iff_ne];omega
 have q1:decide ((64:Int) < (n:Int))=true:=by rw [decide_eq_true_iff];omega
 go_enter Tryz.func12,Tryz.ntmps12;go_wp2;go_ret;exact ⟨rfl,bi⟩
set_option maxHeartbeats 16000000 in
theorem jnd {K:Int} (hK:jg9 ks ls=K) (hv:Lv w A n ls) (h0:0 < n) (hn:n≤64) (ht:jrY d ls) (hd:d≤130) (hd0:0 < d) (hlim:(n+2)*(d+10)≤9000) (ho:Ordered ks) (hm:∀x,x∈ks↔jbF (jal ls) x=true):
  Calls Tryz.prog 12 #[.slice A n c] w fun e w'=>e= .returned (.int .i64 K)∧Below w.heap.size w w':=by
 have hl:=hv.len;unfold jg9 at hK;rw [if_neg (by omega),if_neg (by omega)] at hK;have q0:((n:Int)==0)=false:=by rw [beq_eq_false_iff_ne];omega
 have q1:decide ((64:Int) < (n:Int))=false:=by rw [decide_eq_false_iff_not];omega
 obtain ⟨k,hk⟩:∃k,jab jaj ls=k:=⟨_,rfl⟩;have HMX:=qh (fun (h:k=0)=>jmL hv (hk.trans h) ht hd0 hlim (by omega));have HLOT:=qh (fun (h:k=0) W (hW:Below w.heap.size w W)=>jp6 (c:=c) ((HMX.out h).below hW));rw [hk] at hK;have HK:=qh hK;have HFN:=qh hk;have HV:=qh hv;have HT:=qh ht;have HN:=qh (And.intro h0 (And.intro hn (And.intro hd hd0)));have HO:=qh (And.intro ho hm);clear hK hk hv ht h0 hn hd hd0 hlim ho hm hl;go_enter Tryz.func12,Tryz.ntmps12;go_wp2
 go_loopw [3,4] (fun v u wr=>∃(i:Nat),u= .int .i64 (i:Int)∧v= .int .i64 (jcd (ls.take i))∧i≤n∧Below w.heap.size w wr∧jab jaj (ls.drop i)=k∧∀x∈ls.take i,jaj x=0) (fun _ u _=>n - (intOf u).toNat)
 case atStart=>exact ⟨0,rfl,rfl,Nat.zero_le _,bi,HFN.out,fun x hx=>by simp at hx⟩
 case round=>
  obtain ⟨i,rfl,rfl,hin,hb,hf,ha⟩:=hrel;have _:=bm hb
  rename World=>wo
  have HF:=qh hf;have HA:=qh ha;have hn64:=HN.out.2.1;clear hf ha;by_cases hi:i < n
  ·have p0:decide (i < n)=true:=by simpa using hi
   have HI:=qh hi;obtain ⟨b,o,B,e,rfl,k0,k1,k2,kp⟩:=HV.out.low hi hb;obtain ⟨x,hx⟩:∃x,ls.getD i jaA=x:=⟨_,rfl⟩;have hmem:x∈ls:=by rw [←hx];exact jbu (by rw [HV.out.len];exact hi)
   have hf:=HF.out;rw [jaH (d:=jaA) (by rw [HV.out.len];exact hi),hx,jab] at hf;obtain ⟨y,hy⟩:∃y,jaj x=y:=⟨_,rfl⟩;have HRL:=qh (fun W (hW:Below w.heap.size w W)=>jfG (c:=e) (z:=x.mass) (g:=x.grain) (ps:=x.shares) hy ((by rw [←hx];exact kp:Pv w B x.shares.length x.shares).below hW) HN.out.2.2.1 HN.out.2.2.2 (HT.out x hmem));have HTK:=qh (jej x (ls.take i));have hsn:=jdX (l:=ls) (i:=i) (d:=jaA) (r:=x) (by rw [HV.out.len];exact hi) hx;have HSN:=qh hsn;have hA2:=HA.out;rw [hx] at k0 k1 k2;obtain ⟨g,hg⟩:∃g,x.grain=g:=⟨_,rfl⟩;obtain ⟨z,hz⟩:∃g,x.mass=g:=⟨_,rfl⟩;obtain ⟨l,hl⟩:∃g,x.shares.length=g:=⟨_,rfl⟩;rw [hg,hz,hl] at HRL;rw [hg] at k0;rw [hz] at k1;rw [hl] at k2;rw [hy] at hf;by_cases hy0:y=0
   ·subst hy0;rw [if_pos rfl] at hf;have HF2:=qh hf;have HY:=qh hy;have hms:=jdW HA.out;have hle:(ls.take i).length≤64:=by rw [List.length_take];omega
    have hz9:1≤z∧z≤999999999:=by
     have:=jan HY.out;rw [hz] at this;exact ⟨this.2.1,this.2.2.1⟩
    rw [hz] at HTK;obtain ⟨S,hS⟩:∃S,jcd (ls.take i)=S:=⟨_,rfl⟩;rw [hS] at hms HTK ⊢;have q5:wrap64 (S+z)=S+z:=by unfold wrap64;omega
    have zb:b < wo.heap.size:=World.block_lt_of_cell? wo _ k1;clear hf hy hmem hsn hx kp hg hz hl hA2 hms hle hz9 hS;go_wp2_with (go_at_call 10;(with_reducible refine mo0 (HRL.out _ bi) fun w1 hb1 hc1 hf1 _=> ?_))
    refine ⟨⟨i+1,by simp,by rw [HSN.out,HTK.out,q5],HI.out,bi,HF2.out,fun a ha=> ?_⟩,by have:=HI.out;simp [intOf];omega⟩;rw [HSN.out,List.mem_append,List.mem_singleton] at ha;rcases ha with ha|rfl
    ·exact HA.out a ha
    ·exact HY.out
   ·rw [if_neg hy0] at hf;subst hf;have q2:(y != 0)=true:=by rw [bne_iff_ne];exact hy0
    have hKK:=HK.out;rw [if_pos hy0] at hKK;subst hKK;clear hy hmem hsn hx kp hg hz hl hA2 hy0;go_wp2_with (go_at_call 10;(with_reducible refine mo0 (HRL.out _ bi) fun w1 hb1 hc1 hf1 _=> ?_))
    go_ret;exact ⟨rfl,bi⟩
  ·have p0:decide (i < n)=false:=by simp;omega
   have e1:i=n:=by omega
   have hf:=HF.out;rw [List.drop_eq_nil_of_le (by rw [HV.out.len];omega),jab] at hf;subst hf;have HLO:=qh (HLOT.out rfl);clear HLOT;have ea:ls.take i=ls:=List.take_of_length_le (by rw [HV.out.len];omega);rw [ea] at HA ⊢;obtain ⟨g,hg⟩:∃g,(ls.getD 0 jaA).grain=g:=⟨_,rfl⟩;have hK:=HK.out;rw [if_neg (by simp),hg] at hK;have HK2:=qh hK;have HG:=qh hg;obtain ⟨G,hG⟩:∃G,jbX g ls=G:=⟨_,rfl⟩;have HG1:=qh (jk8 (by rw [HV.out.len];exact HN.out.1) hg);have hms:=jdW HA.out;have hlen:=HV.out.len;obtain ⟨S,hS⟩:∃S,jcd ls=S:=⟨_,rfl⟩;have HS:=qh hS;rw [hS] at hms ⊢;rw [hG] at HG1 HK2;rw [hS] at HK2;have HGG:=qh hG;clear hi hin e1 ea hK HK hg hG hS HF;go_wp2
   go_loopw [6] (fun u wr=>∃(j:Nat),u= .int .i64 (j:Int)∧1≤j∧j≤n∧Below w.heap.size w wr∧jbX g (ls.drop j)=G) (fun u _=>n - (intOf u).toNat)
   case atStart=>exact ⟨1,rfl,Nat.le_refl _,HN.out.1,hb,HG1.out⟩
   case round=>
    obtain ⟨j,rfl,hj1,hjn,hb2,hf⟩:=hrel;have _:=bm hb2;have HF:=qh hf;clear hf hb;by_cases hj:j < n
    ·have p1:decide (j < n)=true:=by simpa using hj
     have HJ:=qh hj;obtain ⟨b,o,B,e,rfl,k0,k1,k2,kp⟩:=HV.out.low hj hb2;obtain ⟨b',o',B',e',h',l0,l1,l2,lp⟩:=HV.out.low HN.out.1 hb2;cases h'
     rw [HG.out,Nat.zero_mul,Nat.add_zero] at l0;have hf:=HF.out;rw [jeY (by rw [HV.out.len];exact hj)] at hf;obtain ⟨x,hx⟩:∃x,(ls.getD j jaA).grain=x:=⟨_,rfl⟩;rw [hx] at k0 hf;obtain ⟨f,hfd⟩:∃f,(x != g)=f:=⟨_,rfl⟩;have hfd2:(x==g)= !f:=by rw [←hfd];simp [bne]
     rw [hfd] at hf;have HF2:=qh hf;have h0n:=HN.out.1;have zb:b < wr.heap.size:=World.block_lt_of_cell? wr _ k0;clear k1 k2 kp l1 l2 lp hx hf;go_upto_region 16 with (fail)
     refine ja3 (fun w'=>Below wr.heap.size wr w') [] (by kernel_rfl) ?_;refine tb 0 (.slice (some ⟨b,o,none⟩) n c) [] rfl (by kernel_rfl) pk rfl (by intros;go_simp) bq0 ?_;refine tb 1 (.int .i64 (j:Int)) [] rfl (by kernel_rfl) pk rfl (by intros;go_simp) bq0 ?_;refine tb 2 (.pointer (some ⟨b,o+j*3,none⟩)) [] rfl (by kernel_rfl) pk rfl (by intros;go_simp) bq0 ?_;refine tb 3 (.pointer (some ⟨b,o+j*3,none⟩)) [] rfl (by kernel_rfl) pk rfl (by intros;go_simp) bq0 ?_;refine tb 4 (bs x) [] rfl (by kernel_rfl) pk rfl (by intros;go_simp) bq0 ?_;refine tb 5 (.slice (some ⟨b,o,none⟩) n c) [] rfl (by kernel_rfl) pk rfl (by intros;go_simp) bq0 ?_;refine tb 6 (.pointer (some ⟨b,o,none⟩)) [] rfl (by kernel_rfl) pk rfl (by intros;go_simp) bq0 ?_;refine tb 7 (.pointer (some ⟨b,o,none⟩)) [] rfl (by kernel_rfl) pk rfl (by intros;go_simp) bq0 ?_;refine tb 8 (bs g) [] rfl (by kernel_rfl) pk rfl (by intros;go_simp) bq0 ?_;simp only [ppq];refine rd1 9 (by kernel_rfl) rfl (fun K hK=> ?_);go_simp;refine hK.out _ _ (fun _=>bi) ?_;clear hK K;refine ja2 (by kernel_rfl) ?_ _;cases f
     ·go_wp2;exact ⟨⟨j+1,by simp,by omega,HJ.out,bi,by simpa using HF2.out⟩,by have:=HJ.out;simp [intOf];omega⟩
     ·have hG1:true=G:=by simpa using HF2.out
      subst hG1;have hKK:=HK2.out;rw [if_pos rfl] at hKK;subst hKK;go_wp2;go_ret;exact ⟨rfl,bi⟩
    ·have p1:decide (j < n)=false:=by simp;omega
     have hG1:=HF.out;rw [List.drop_eq_nil_of_le (by rw [HV.out.len];omega)] at hG1;have hG2:G=false:=by rw [←hG1];rfl
     subst hG2;have hKK:=HK2.out;rw [if_neg (by simp)] at hKK;clear hj hjn hj1 HK2 hG1;by_cases hS9:999999999 < S
     ·have q4:decide (999999999 < S)=true:=by rw [decide_eq_true_iff];exact hS9
      rw [if_pos hS9] at hKK;subst hKK;clear hS9 hms;go_wp2;go_ret;exact ⟨rfl,bi⟩
     ·have q4:decide (999999999 < S)=false:=by rw [decide_eq_false_iff_not];exact hS9
      rw [if_neg hS9] at hKK;by_cases h64:64 < ks.length
      ·rw [if_pos h64] at hKK;subst hKK;have q6:decide ((64:Int) < (ks.length:Int))=true:=by rw [decide_eq_true_iff];omega
       clear hS9 hms h64;go_wp2_with (go_at_call 16;(with_reducible refine (HLO.out _ bi).mono ?_);rintro e3 w3 ⟨A3,c3,ks3,rfl,h3,hb3⟩;have _:=bm hb3;obtain rfl:ks3=ks:=jcc h3.ord HO.out.1 (fun x=>(h3.keys x).trans (HO.out.2 x).symm);clear h3)
       go_ret;exact ⟨rfl,bi⟩
      ·rw [if_neg h64] at hKK;subst hKK;have q6:decide ((64:Int) < (ks.length:Int))=false:=by rw [decide_eq_false_iff_not];omega
       clear hS9 hms h64;go_wp2_with (go_at_call 16;(with_reducible refine (HLO.out _ bi).mono ?_);rintro e3 w3 ⟨A3,c3,ks3,rfl,h3,hb3⟩;have _:=bm hb3;obtain rfl:ks3=ks:=jcc h3.ord HO.out.1 (fun x=>(h3.keys x).trans (HO.out.2 x).symm);clear h3)
       go_ret;exact ⟨rfl,bi⟩
end
end Go.Proofs.YteokfcjdfjhhhaaGreatDoor
