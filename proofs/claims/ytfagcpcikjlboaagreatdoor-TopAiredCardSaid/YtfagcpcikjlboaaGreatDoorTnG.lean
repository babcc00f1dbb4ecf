/- Parts. -/
import Derived.Test.YtfagcpcikjlboaaGreatDoorTkG
set_option linter.all false
set_option maxRecDepth 100000
set_option maxHeartbeats 8000000
namespace Go.Proofs.YtfagcpcikjlboaaGreatDoor
open Go Go.RowKit Go.Maps Go.Sort Go.Proofs.Tryz

theorem jBb (W:World) (T:TypeId) (c:Nat) (x y g:Int) (hg:fzb [x,y]=g):Calls prog 54 #[.slice (some ⟨W.heap.size,0,none⟩) 2 c] (W.alloc (.cells #[.int .i64 x, .int .i64 y] T)) fun e w'=>e= .returned (.int .i64 g)∧Below (W.alloc (.cells #[.int .i64 x, .int .i64 y] T)).heap.size (W.alloc (.cells #[.int .i64 x, .int .i64 y] T)) w':=
 jA0 (n:=2) (zs:=[x,y]) (by omega) rfl (fun j hj=>by
  rcases (show j=0∨j=1 by omega) with rfl|rfl <;> simp [go_sem]) hg
theorem jBS (W:World) (T:TypeId) (c:Nat) (x y z g:Int) (hg:fzb [x,y,z]=g):Calls prog 54 #[.slice (some ⟨W.heap.size,0,none⟩) 3 c] (W.alloc (.cells #[.int .i64 x, .int .i64 y, .int .i64 z] T)) fun e w'=>e= .returned (.int .i64 g)∧Below (W.alloc (.cells #[.int .i64 x, .int .i64 y, .int .i64 z] T)).heap.size (W.alloc (.cells #[.int .i64 x, .int .i64 y, .int .i64 z] T)) w':=
 jA0 (n:=3) (zs:=[x,y,z]) (by omega) rfl (fun j hj=>by
  rcases (show j=0∨j=1∨j=2 by omega) with rfl|rfl|rfl <;> simp [go_sem]) hg
def jzK (w:World) (R:Nat):Prop:=w.heap[R]? =some (.cells #[bs [], .int .i64 0, .slice none 0 0] 52)
theorem jzK.made (w:World):jzK (w.alloc (.cells #[bs [], .int .i64 0, .slice none 0 0] 52)) w.heap.size:=heap_alloc_new w _
theorem jzK.lt {w:World} {R:Nat} (h:jzK w R):R < w.heap.size:=(Array.getElem?_eq_some_iff.1 h).1
theorem jzK.below {w w':World} {R:Nat} (h:jzK w R) (hb:Below w.heap.size w w'):jzK w' R:=(hb.block R h.lt).trans h
theorem jzK.grown {w w':World} {R g:Nat} (h:jzK w R) (hb:w.grownBy w' (some g)) (hg:g≠R):jzK w' R:=(hb.block R h.lt (fun e=>hg (by cases e;rfl))).trans h
theorem jzK.cells {w:World} {R:Nat} (h:jzK w R):w.cell? ⟨R,0,none⟩=some (bs [])∧w.cell? ⟨R,1,none⟩=some (.int .i64 0)∧w.cell? ⟨R,2,none⟩=some (.slice none 0 0)∧(∀o,w.frozen? ⟨R,o,none⟩=false):=by
 unfold jzK at h;refine ⟨?_, ?_, ?_,fun o=> ?_⟩
 all_goals simp [World.cell?,World.frozen?,h]
theorem jzK.ne {w:World} {R n:Nat} {A:Option Addr} {ps:List (List UInt8×List UInt8)} (h:jzK w R) (hv:Pv w A n ps) (h0:0 < n):∀b o,A=some ⟨b,o,none⟩→b≠R:=by
 rintro b o rfl rfl
 obtain ⟨b',o',e,_,hc⟩:=hv.at_ h0;cases e
 have h1:=(hc 0 h0).2;rw [Nat.zero_mul,Nat.add_zero] at h1;unfold jzK at h;simp only [World.cell?,h] at h1;rcases o with _ | _|o <;> simp at h1
theorem Pv.stored {w w':World} {R n:Nat} {A:Option Addr} {ps:List (List UInt8×List UInt8)} (hv:Pv w A n ps) (hg:w.grownBy w' (some R)) (hne:∀b o,A=some ⟨b,o,none⟩→b≠R):Pv w' A n ps:=
 ⟨hv.len,fun h0=>by
   obtain ⟨b,o,rfl,hl,hc⟩:=hv.at_ h0;have:=hne b o rfl
   exact ⟨b,o,rfl,Nat.lt_of_lt_of_le hl hg.size,fun j hj=>⟨hg.cell (hc j hj).1 (by simp;exact this),hg.cell (hc j hj).2 (by simp;exact this)⟩⟩⟩
section
variable {w:World} {A:Option Addr} {n c q:Nat} {ls:List Lay} {mass:Int}
theorem LvR.below {b o:Nat} {xs:List Value} {w':World} (h:LvR w b o n ls xs) (hb:Below w.heap.size w w'):LvR w' b o n ls xs:=
 ⟨h.len,h.view.below hb,fun j hj=>by
   obtain ⟨u,hu⟩:∃u,xs[j]? =some u:=⟨_,List.getElem?_eq_getElem (by rw [h.len];exact hj)⟩
   rw [hu];exact ja9 hb ((h.cell j hj).trans hu),h.one⟩
theorem MixIn.sum (h:MixIn w A n ls mass q):jzD ls=mass∧mass≤999999999∧(∀x∈ls,x.grain=(ls.getD 0 jyM).grain):=by
 obtain ⟨h1,h2,h3⟩:=jAa h.mix;exact ⟨by omega,h2,h3⟩
theorem MixIn.par (h:MixIn w A n ls mass q):ParIn w A n ls:=⟨h.view,h.le,h.lay,h.chk,by have:=h.sum;omega⟩
theorem MixIn.lots (h:MixIn w A n ls mass q):LotsIn w A n ls q:=
 ⟨h.view,h.le,h.qle,fun x hx=>by have:=h.par.mass x hx;omega,fun x hx=>(jyQ (jyL (jyJ h.chk x hx)).2.2.2).1.2,fun x hx p hp=>h.share hx hp⟩
theorem MixIn.on {w':World} {B:Option Addr} (h:MixIn w A n ls mass q) (hv:Lv w' B n ls):MixIn w' B n ls mass q:=⟨hv,h.pos,h.le,h.lay,h.qle,h.sz,h.chk,h.mix⟩
theorem MixIn.name (h:MixIn w A n ls mass q):jyU (ls.getD 0 jyM).grain=true:=
 (jyL (jyJ h.chk _ (h.layer h.pos).1)).1
variable {ks:List (List UInt8)} {outs:List (List UInt8×List UInt8)} {g0:List UInt8} {txt:List UInt8→List UInt8}
theorem jC8 (hE:Env w) (h:MixIn w A n ls mass q) (ho:Ordered ks) (hm:∀x,x∈ks↔jzj (jyI ls) x=true) (h0:0 < ks.length) (hkl:ks.length≤64) (hg0:(ls.getD 0 jyM).grain=g0)
  (hol:outs.length=ks.length) (hout:∀j,j < ks.length→(outs.getD j ([],[])).1=ks.getD j []∧StrQ (tot (jyI ls) (ks.getD j []) / ((mass:Int):Rat))∧jcF (tot (jyI ls) (ks.getD j []) / ((mass:Int):Rat))=(outs.getD j ([],[])).2∧jbq (tot (jyI ls) (ks.getD j []) / ((mass:Int):Rat))=0):
  Calls prog 59 #[.slice A n c,bs g0] w fun e w'=>∃B d,e= .returned (.tuple #[.agg #[bs g0, .int .i64 mass, .slice B ks.length d], .int .i64 0])∧Pv w' B ks.length outs∧Below w.heap.size w w':=by
 obtain ⟨b,o,rfl,_,_⟩:=h.view.at_ h.pos;obtain ⟨xs,hx⟩:=LvR.mk' h.view h.pos
 have hxg:∀i,i < n→xs[i*3]? =some (bs g0):=fun i hi=>by
  obtain ⟨b',o',e,_,hat⟩:=h.view.at_ h.pos;cases e
  obtain ⟨_,_,k0,_⟩:=(hat i hi).at_;rw [←hx.cell (i*3) (by omega),k0,(h.sum).2.2 _ (h.layer hi).1,hg0]
 have hn0:((n:Int)==0)=false:=by rw [beq_eq_false_iff_ne];have:=h.pos;omega
 have HN:=qh (ai h.pos h.le);have HX:=qh hx;have HXG:=qh hxg;have HK:=qh h0;have HP:=qh (fun W (hb:Below w.heap.size w W)=>jA7 (c:=c) (hE.below hb) (h.par.below hb));have HNM:=qh (fun W=>jyN (w:=W) (hg0 ▸ h.name));have HC:=qh (fun W (hb:Below w.heap.size w W)=>jzY (c:=c) (hx.below hb) h.pos (by have:=h.le;omega));have HM:=qh (fun W (hb:Below w.heap.size w W) B c (hv:Lv W B n ls)=>jCm (c:=c) (hE.below hb) (h.on hv) ho hm h0 hkl hg0 hol hout);clear hE h ho hm h0 hkl hg0 hol hout hx hxg;go_enter func59,ntmps59
 go_upto_region 4 with (first
  | (go_at_call 55;(with_reducible refine mo1 w (HP.o _ bi) (by go_size) fun w1 hb1 hc1 hf1 z1_0 _=> ?_))
  | (go_at_call 108;(with_reducible refine mo1 w (HNM.o _) (by go_size) fun w2 hb2 hc2 hf2 z2_0 _=> ?_))
  | (go_at_call 56;(with_reducible show Calls _ _ #[.bool false, .int .i64 8] _ _);(with_reducible refine mo1 w (jz7 rfl) (by go_size) fun w3 hb3 hc3 hf3 z3_0 _=> ?_))
  | (go_at_call 56;(with_reducible show Calls _ _ #[.bool false, .int .i64 13] _ _);(with_reducible refine mo1 w (jz7 rfl) (by go_size) fun w4 hb4 hc4 hf4 z4_0 _=> ?_))
  | (go_at_call 54;(with_reducible refine mo1 w (jBS _ _ _ 0 0 0 0 rfl) (by go_size) fun w5 hb5 hc5 hf5 z5_0 _=> ?_)))
 have bW:RowKit.Below w.heap.size w w5:=bi;have hsz5:w.heap.size < w5.heap.size:=z5_0;have q5:RowKit.Below (w.alloc (.cells #[bs [], .int .i64 0, .slice none 0 0] 52)).heap.size (w.alloc (.cells #[bs [], .int .i64 0, .slice none 0 0] 52)) w5:=bi;have r5:=(jzK.made w).below q5;clear q5 hb1 hb2 hb3 hb4 hb5 hc1 hc2 hc3 hc4 hc5 hf1 hf2 hf3 hf4 hf5 z1_0 z2_0 z3_0 z4_0 z5_0 HP HNM hn0;go_wp2_with (go_at_call 109;(with_reducible refine (HC.o _ bW).mono ?_);rintro e6 w6 ⟨g,d,rfl,how6,hb6⟩;obtain ⟨hc6,hf6,_⟩:=bc0 hb6)
 have b6:RowKit.Below w.heap.size w w6:=ja0 bW hb6;have hgb:=World.ownsRow.lt how6 g rfl;have HG:=qh hgb;have hgr:w.heap.size < g:=Nat.lt_of_lt_of_le hsz5 hgb.1;have r6:=r5.below hb6;have hsz6:=Nat.lt_of_lt_of_le hsz5 hb6.size;clear hc6 hf6 hgb
 go_loopw [29] (fun u wr=>∃(i:Nat),u= .int .i64 (i:Int)∧i≤n∧Below w.heap.size w wr∧jBf wr w5.heap.size (.slice (some ⟨g,0,none⟩) n d) n xs
  ∧jzK wr w.heap.size∧w.heap.size < wr.heap.size) (fun u _=>n - (intOf u).toNat)
 case atStart=>exact ⟨0,rfl,Nat.zero_le _,b6,how6,r6,hsz6⟩
 case round=>
  obtain ⟨i,rfl,hin,hb,how,hr,hsz⟩:=hrel;have _:=bm hb;have hnn:=HN.o;have HOW:=qh how;by_cases hi:i < n
  ·have p0:decide (i < n)=true:=by simpa using hi
   have hxi:=HXG.o i hi;have k0:wr.cell? ⟨g,i*3,none⟩=some (bs g0):=(World.ownsRow.cellAt how (i*3) (by omega)).trans hxi;have kf:=World.ownsRow.frozenAt how (i*3);have hst:=World.ownsRow.stored how (i*3) (bs g0)
   have hxs:xs.set (i*3) (bs g0)=xs:=by
    obtain ⟨hlt,he⟩:=List.getElem?_eq_some_iff.1 hxi
    rw [←he];exact List.set_getElem_self hlt
   rw [hxs] at hst;have HST:=qh hst;have hgl:=(World.ownsRow.lt how g rfl).2;have HI:=qh hi;have hne:g≠w.heap.size:=by omega
   clear how hxi hst hxs how6 b6 hb6;have _:=Sx.mk (Nat.le_of_lt hgr);go_wp2;exact ⟨⟨i+1,by simp,HI.o,bi,HST.o.1,hr.grown HST.o.2 hne,by simpa using hsz⟩,by have:=HI.o;simp [intOf];omega⟩
  ·have p0:decide (i < n)=false:=by simp;omega
   have hv:Lv wr (some ⟨g,0,none⟩) n ls:=HX.o.same hb (World.ownsRow.lt how g rfl).2 (fun j hj=>World.ownsRow.cellAt how j hj);have hh:=hr.cells;obtain ⟨r0,r1,r2,rf⟩:=hh;have HV:=qh (HM.o wr hb (some ⟨g,0,none⟩) d hv);clear how how6 b6 hb6 hv;go_wp2_with (go_at_call 110;(with_reducible refine HV.o.mono ?_);rintro e7 w7 ⟨B7,d7,rfl,hp7,hb7⟩;obtain ⟨hc7,hf7,_⟩:=bc0 hb7;have hz7:=Nat.lt_of_lt_of_le hsz hb7.size)
   have r7:=hr.below hb7;have g7:w7.grownBy (((w7.setCell ⟨w.heap.size,0,none⟩ (bs g0)).setCell ⟨w.heap.size,1,none⟩ (.int .i64 mass)).setCell ⟨w.heap.size,2,none⟩ (.slice B7 ks.length d7)) (some w.heap.size):=((jyK _).trans (jyK _)).trans (jyK _);refine bodyPost_ret (v:= .tuple #[.agg #[bs g0, .int .i64 mass, .slice B7 ks.length d7], .int .i64 0]) (by simp [results,results59,go_sem,hc7,hf7,r0,r1,r2,rf,hz7,hsz]) rfl ⟨B7,d7,rfl,hp7.stored g7 (r7.ne hp7 HK.o),bi⟩
end

section
variable {w:World} {A:Option Addr} {n c q:Nat} {ls:List Lay} {mass left:Int} {ks:List (List UInt8)} {outs:List (List UInt8×List UInt8)} {g0:List UInt8} {txt:List UInt8→List UInt8}
structure Mixd (ls:List Lay) (mass:Int) (ks:List (List UInt8)) (outs:List (List UInt8×List UInt8)) (g0:List UInt8):Prop where
 ord:Ordered ks
 mem:∀x,x∈ks↔jzj (jyI ls) x=true
 pos:0 < ks.length
 few:ks.length≤64
 grain:(ls.getD 0 jyM).grain=g0
 len:outs.length=ks.length
 out:∀j,j < ks.length→(outs.getD j ([],[])).1=ks.getD j []∧StrQ (tot (jyI ls) (ks.getD j []) / ((mass:Int):Rat))∧jcF (tot (jyI ls) (ks.getD j []) / ((mass:Int):Rat))=(outs.getD j ([],[])).2∧jbq (tot (jyI ls) (ks.getD j []) / ((mass:Int):Rat))=0
theorem Mixd.names (h:Mixd ls mass ks outs g0):outs.map (·.1)=ks:=by
 apply List.ext_getElem
 ·rw [List.length_map,h.len]
 ·intro j h1 h2;have:=(h.out j h2).1;rw [List.getD_eq_getElem?_getD,List.getElem?_eq_getElem (by rw [h.len];exact h2),List.getD_eq_getElem?_getD,List.getElem?_eq_getElem h2] at this;simpa using this
theorem Mixd.mem2 (h:Mixd ls mass ks outs g0) (m:Int) (x:List UInt8):x∈ks↔jzj (jyI [⟨g0,m,outs⟩]) x=true:=by
 rw [←h.names,jyI,List.flatMap_cons,List.flatMap_nil,List.append_nil,jyP,jzj,List.any_map,List.any_eq_true,List.mem_map];constructor
 ·rintro ⟨p,hp,rfl⟩;exact ⟨p,hp,by simp⟩
 ·rintro ⟨p,hp,e⟩;exact ⟨p,hp,by simpa using e⟩
theorem jB9 {B:Option Addr} {k d:Nat} {ps:List (List UInt8×List UInt8)} {m:Int} (hv:Pv w B k ps) (T:TypeId):Lv (w.alloc (.cells #[bs g0, .int .i64 m, .slice B k d] T)) (some ⟨w.heap.size,0,none⟩) 1 [⟨g0,m,ps⟩]:=by
 have hl:=hv.len;refine ⟨rfl,fun _=>⟨w.heap.size,0,rfl,by simp,fun j hj=> ?_⟩⟩;obtain rfl:j=0:=by omega
 exact ⟨⟨B,d,by simp,by simp,by simp [hl],by simpa [hl] using hv.below (ja5 (Below.refl _ _) _)⟩⟩
theorem jA3 (hE:Env w) (h:MixIn w A n ls mass q) (hd:Mixd ls mass ks outs g0) (h1:1≤left) (h2:left≤mass) (h3:left < mass)
  (hl:∀p∈outs,IsNum p.2 (numQ p.2)∧p.1.length≤maxLen∧Sz 18 (numQ p.2)) (hs:∀k∈ks,StrQ (tot (jyI [⟨g0,mass - left,outs⟩]) k)∧je3 (tot (jyI [⟨g0,mass - left,outs⟩]) k)=false∧tq (tot (jyI [⟨g0,mass - left,outs⟩]) k)=txt k):
  Calls prog 19 #[.slice A n c, .int .i64 left] w fun e w'=>∃B d C f,e= .returned (.tuple #[.agg #[bs g0, .int .i64 left, .slice B ks.length d], .slice C ks.length f, .int .i64 0])∧Pv w' B ks.length outs∧Pv w' C ks.length (amL txt ks)∧Below w.heap.size w w':=by
 have HP:=qh (fun W (hb:Below w.heap.size w W)=>jA7 (c:=c) (hE.below hb) (h.par.below hb));have HT:=qh (fun W (hb:Below w.heap.size w W)=>(h.par.below hb).total (c:=c) h.sum.1);have HG:=qh (fun W (hb:Below w.heap.size w W)=>jBm (c:=c) (h.view.below hb) h.pos (by have:=h.le;omega) h.sum.2.2);have HO:=qh (fun W (hb:Below w.heap.size w W)=>jC8 (c:=c) (hE.below hb) (h.on (h.view.below hb)) hd.ord hd.mem hd.pos hd.few hd.grain hd.len hd.out);have HK:=qh hd.pos;have p1:decide (left < 1)=false:=by rw [decide_eq_false_iff_not];omega
 have p2:decide (mass < left)=false:=by rw [decide_eq_false_iff_not];omega
 have hms:=h.sum.2.1;have hw:wrap64 (mass - left)=mass - left:=by unfold wrap64;omega
 have HN:=qh h.pos;obtain ⟨b,o,rfl,hbl,hat⟩:=h.view.at_ h.pos;obtain ⟨_,_,k0,_⟩:=(hat 0 h.pos).at_;rw [hd.grain,Nat.zero_mul,Nat.add_zero] at k0;have HK0:=qh (fun W (hb:RowKit.Below w.heap.size w W)=>ja9 hb k0);have hn0:=h.pos;have HW:=qh (fun W B c (hv:Pv W B ks.length outs)=>jCh (c:=c) (g:=g0) (m:=left) (m':=mass - left) hv hd.pos (by have:=hd.few;omega));have HLT:=qh (fun W (hb:Below w.heap.size w W) B c (hv:Lv W B 1 [⟨g0,mass - left,outs⟩])=>jC4 (q:=18) (c:=c) (hE.below hb) ⟨hv,by omega,by omega,fun x hx=>by rw [List.mem_singleton.1 hx];dsimp only;omega,fun x hx=>by rw [List.mem_singleton.1 hx];dsimp only;rw [hd.len];exact hd.few,fun x hx p hp=>by rw [List.mem_singleton.1 hx] at hp;exact hl p hp⟩);have HAM:=qh (fun W (hb:Below w.heap.size w W) b n D (hq:MapQ W b n D (jyI [⟨g0,mass - left,outs⟩]))=>jAQ (hE.below hb) hq hd.ord (hd.mem2 (mass - left)) hd.pos (by have:=hd.few;omega) hs);have hz:((mass - left)==0)=false:=by rw [beq_eq_false_iff_ne];omega
 clear hE h hd hat h1 h2 h3 hl hs hms;go_enter func19,ntmps19
 go_upto_region 4 with (first
  | (go_at_call 55;(with_reducible refine mo1 w (HP.o _ bi) (by go_size) fun w1 hb1 hc1 hf1 z1_0 _=> ?_))
  | (go_at_call 56;(with_reducible show Calls _ _ #[.bool false, .int .i64 3] _ _);(with_reducible refine mo1 w (jz7 rfl) (by go_size) fun w2 hb2 hc2 hf2 z2_0 _=> ?_))
  | (go_at_call 54;(with_reducible refine mo1 w (jBb _ _ _ 0 0 0 rfl) (by go_size) fun w3 hb3 hc3 hf3 z3_0 _=> ?_)))
 go_upto_region 7 with (first
  | (go_at_call 57;(with_reducible refine mo1 w (HT.o _ bi) (by go_size) fun w4 hb4 hc4 hf4 z4_0 _=> ?_))
  | (go_at_call 56;(with_reducible show Calls _ _ #[.bool false, .int .i64 13] _ _);(with_reducible refine mo1 w (jz7 rfl) (by go_size) fun w5 hb5 hc5 hf5 z5_0 _=> ?_))
  | (go_at_call 58;(with_reducible refine mo1 w (HG.o _ bi) (by go_size) fun w6 hb6 hc6 hf6 z6_0 _=> ?_))
  | (go_at_call 54;(with_reducible refine mo1 w (jBb _ _ _ 0 0 0 rfl) (by go_size) fun w7 hb7 hc7 hf7 z7_0 _=> ?_)))
 have b7:RowKit.Below w.heap.size w w7:=bi;have k7:=HK0.o _ b7;have q7:RowKit.Below (w.alloc (.cells #[bs [], .int .i64 0, .slice none 0 0] 52)).heap.size (w.alloc (.cells #[bs [], .int .i64 0, .slice none 0 0] 52)) w7:=bi;have r7:=(jzK.made w).below q7;have hbl7:=World.block_lt_of_cell? w7 _ k7;dsimp only at hbl7;clear q7 hb1 hb2 hb3 hb4 hb5 hb6 hb7 hc1 hc2 hc3 hc4 hc5 hc6 hc7 hf1 hf2 hf3 hf4 hf5 hf6 hf7 z1_0 z2_0 z3_0 z4_0 z5_0 z6_0 z7_0 HP HT HG k0
 go_upto_region 10 with (first
  | (go_at_call 59;(with_reducible refine (HO.o _ b7).mono ?_);rintro e8 w8 ⟨B8,d8,rfl,hp8,hb8⟩;obtain ⟨hc8,hf8,_⟩:=bc0 hb8))
 have b8:=ja0 b7 hb8;have r8:=r7.below hb8;have hsz8:=r8.lt;obtain ⟨c0,c1,c2,cf⟩:=r8.cells;clear hc8 hf8 b7 k7 r7 hbl7 HO HK0
 go_wp2_with (first
  | (go_at_call 62;(with_reducible refine (HW.o _ _ _ (hp8.below bi)).mono ?_);rintro e9 w9 ⟨B9,d9,rfl,hp9,hb9⟩;obtain ⟨hc9,hf9,_⟩:=bc0 hb9;(first|have y9_0:=szl (k:=w8.heap.size) hb9 (by first|go_size|fail)|have y9_0:=Nat.one_pos);have HL9:=qh (jB9 (g0:=g0) (m:=mass - left) (d:=d9) hp9))
  | (go_at_call 61;(with_reducible refine (HLT.o _ (ja0 b8 bi) _ _ (HL9.o _)).mono ?_);rintro e10 w10 ⟨b10,D10,rfl,hbb10,hq10,hb10⟩;obtain ⟨hc10,hf10,_⟩:=bc0 hb10;(first|have y10_0:=szl (k:=w8.heap.size) hb10 (by first|go_size|fail)|have y10_0:=Nat.one_pos);have HQ10:=qh hq10;clear hq10 hbb10)
  | (go_at_call 60;(with_reducible refine (HAM.o _ (ja0 b8 bi) _ _ _ HQ10.o).mono ?_);rintro e11 w11 ⟨A11,c11,rfl,hp11,hb11⟩;obtain ⟨hc11,hf11,_⟩:=bc0 hb11;(first|have y11_0:=szl (k:=w8.heap.size) hb11 (by first|go_size|fail)|have y11_0:=Nat.one_pos);have b11:RowKit.Below w8.heap.size w8 w11:=bi;have hr11:=r8.below b11;have hz11:=hr11.lt;have hh11:=hr11.cells;obtain ⟨i0,i1,i2,jf⟩:=hh11))
 have g8:w11.grownBy (((w11.setCell ⟨w.heap.size,0,none⟩ (bs g0)).setCell ⟨w.heap.size,1,none⟩ (.int .i64 left)).setCell ⟨w.heap.size,2,none⟩ (.slice B8 ks.length d8)) (some w.heap.size):=((jyK _).trans (jyK _)).trans (jyK _);have bx:=ja0 b8 b11;have p8:=(hp8.below b11).stored g8 (hr11.ne (hp8.below b11) HK.o);have p11:=hp11.stored g8 (hr11.ne hp11 HK.o);refine bodyPost_ret (v:= .tuple #[.agg #[bs g0, .int .i64 left, .slice B8 ks.length d8], .slice A11 ks.length c11, .int .i64 0]) (by simp [results,results19,go_sem,i0,i1,i2,jf,hz11]) rfl ⟨B8,d8,A11,c11,rfl,p8,p11,bi⟩
end
end Go.Proofs.YtfagcpcikjlboaaGreatDoor
