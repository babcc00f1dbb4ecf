/- Parts. -/
import Derived.Test.YtfagcpcikjlboaaGreatDoorThG
set_option linter.all false
set_option maxRecDepth 100000
set_option maxHeartbeats 8000000
namespace Go.Proofs.YtfagcpcikjlboaaGreatDoor
open Go Go.RowKit Go.Proofs.Tryz

structure LotsIn (w:World) (A:Option Addr) (n:Nat) (ls:List Lay) (q:Nat):Prop where
 view:Lv w A n ls
 le:n≤64
 qle:q≤18
 mass:∀x∈ls,0≤x.mass∧x.mass≤999999999
 few:∀x∈ls,x.shares.length≤64
 share:∀x∈ls,∀p∈x.shares,IsNum p.2 (numQ p.2)∧p.1.length≤maxLen∧Sz q (numQ p.2)
section
variable {w:World} {A:Option Addr} {n q:Nat} {ls:List Lay}
theorem LotsIn.below {w':World} (h:LotsIn w A n ls q) (hb:Below w.heap.size w w'):LotsIn w' A n ls q:=⟨h.view.below hb,h.le,h.qle,h.mass,h.few,h.share⟩
theorem LotsIn.layer (h:LotsIn w A n ls q) {i:Nat} (hi:i < n):(ls.getD i jyM)∈ls∧0≤(ls.getD i jyM).mass∧(ls.getD i jyM).mass≤999999999∧(ls.getD i jyM).shares.length≤64:=by
 have hm:=jz6 (d:=jyM) (show i < ls.length by rw [h.view.len];exact hi);exact ⟨hm,(h.mass _ hm).1,(h.mass _ hm).2,h.few _ hm⟩
theorem jBd (h:LotsIn w A n ls q) {x:Lay} (hx:x∈ls) {c:List UInt8×Rat} (hc:c∈jyP x.mass x.shares):Sz (q+1) c.2:=by
 unfold jyP at hc;obtain ⟨p,hp,rfl⟩:=List.mem_map.1 hc;have h2:=h.mass x hx;exact (h.share x hx p hp).2.2.mul (jej ⟨by omega,by omega⟩)
theorem jCt (h:LotsIn w A n ls q) {i:Nat} {c:List UInt8×Rat} (hc:c∈jyI (ls.take i)):Sz (q+1) c.2:=by
 unfold jyI at hc;obtain ⟨x,hx,hc⟩:=List.mem_flatMap.1 hc;exact jBd h (List.mem_of_mem_take hx) hc
theorem jAZ (h:LotsIn w A n ls q) {i k:Nat} (hi:i < n):(jzs ls i k).length≤4096:=by
 have h1:=jzf (ls:=ls.take i) (fun x hx=>h.few x (List.mem_of_mem_take hx));have h2:=(h.layer hi).2.2.2;have h3:((ls.getD i jyM).shares.take k).length≤64:=by rw [List.length_take];omega
 have h4:(ls.take i).length≤63:=by have:=h.le;rw [List.length_take];omega
 unfold jzs;rw [List.length_append,jzm];omega
theorem jCe (h:LotsIn w A n ls q) {i k:Nat} (hi:i < n) (y:List UInt8):Sz 82000 (tot (jzs ls i k) y):=by
 refine jAi y h.qle (jAZ h hi) (fun c hc=> ?_);rcases List.mem_append.1 hc with hc|hc
 ·exact jCt h hc
 ·have hm:=(h.layer hi).1;refine jBd h hm ?_;unfold jyP at hc ⊢;obtain ⟨p,hp,e⟩:=List.mem_map.1 hc;exact List.mem_map.2 ⟨p,List.mem_of_mem_take hp,e⟩
end
section
variable {w:World} {A:Option Addr} {n c q:Nat} {ls:List Lay}
set_option maxHeartbeats 16000000 in
theorem jC4 (hE:Env w) (h:LotsIn w A n ls q):Calls prog 61 #[.slice A n c] w fun e w'=>∃b D,e= .returned (.map (some b))∧w.heap.size≤b∧MapQ w' b (jyI ls).length D (jyI ls)∧Below w.heap.size w w':=by
 have HE:=qh hE;have HI:=qh h;have HN:=qh h.le;have hmm:= @run_makeMap prog;clear hE h;go_enter func61,ntmps61;go_wp2;have HQ0:=MapQ.made w;have hlt:=Nat.le_refl w.heap.size
 go_loopw [14] (fun u wr=>∃(i:Nat) (D:DataW Value),u= .int .i64 (i:Int)∧i≤n∧Below w.heap.size w wr∧MapQ wr w.heap.size (jyI (ls.take i)).length D (jyI (ls.take i))) (fun u _=>n - (intOf u).toNat)
 case atStart=>exact ⟨0,_,rfl,Nat.zero_le _,bi,HQ0⟩
 case round=>
  obtain ⟨i,D,rfl,hin,hb,hq⟩:=hrel;have _:=bm hb;have HQ:=qh hq;clear hq HQ0 hmm;by_cases hi:i < n
  ·have p0:decide (i < n)=true:=by simpa using hi
   have hnn:=HN.o;obtain ⟨b,o,B,d,rfl,k0,k1,k2,kp⟩:=HI.o.view.low hi hb;have HP:=qh kp;have HL:=qh (HI.o.layer hi);have HII:=qh hi;obtain ⟨g,hg⟩:∃x,(ls.getD i jyM).grain=x:=⟨_,rfl⟩;obtain ⟨m,hm⟩:∃x,(ls.getD i jyM).mass=x:=⟨_,rfl⟩;obtain ⟨l,hl⟩:∃x,(ls.getD i jyM).shares.length=x:=⟨_,rfl⟩;have HMM:=qh hm;have HLL:=qh hl;rw [hg] at k0;rw [hm] at k1 HL;rw [hl] at k2 HL HP;clear hg hm hl kp hi;go_wp2;obtain ⟨B8,hB8⟩:∃x,wr.heap.size=x:=⟨_,rfl⟩;have HQ8:Hd (MapQ (wr.alloc (.cells #[bs g, .int .i64 m, .slice B l d] 52)) w.heap.size (jzs ls i 0).length D (jzs ls i 0)):=qh (by rw [jAd];exact HQ.o.below bi);have hM8:w.heap.size < B8:=by rw [←hB8];exact HQ.o.lt
   have z8:(wr.alloc (.cells #[bs g, .int .i64 m, .slice B l d] 52)).heap.size=B8+1:=by rw [World.size_alloc,hB8]
   have s8:(wr.alloc (.cells #[bs g, .int .i64 m, .slice B l d] 52)).cell? ⟨B8,1,none⟩=some (.int .i64 m):=by rw [←hB8];simp
   simp only [hB8]
   go_loopw [21] (fun u wx=>∃(k:Nat) (D:DataW Value),u= .int .i64 (k:Int)∧k≤l∧Below w.heap.size w wx∧B8 < wx.heap.size
    ∧wx.cell? ⟨B8,1,none⟩=some (.int .i64 m)∧MapQ wx w.heap.size (jzs ls i k).length D (jzs ls i k)) (fun u _=>l - (intOf u).toNat)
   case atStart=>exact ⟨0,D,rfl,Nat.zero_le _,bi,by rw [z8];omega,s8,HQ8.o⟩
   case round=>
    obtain ⟨k,D,rfl,hkl,hb2,hsz2,t8,hq⟩:=hrel;have _:=bm hb2;have HQ:=qh hq;clear hq HQ8 z8 s8 k0 k1 k2 hb;by_cases hk:k < l
    ·have p1:decide (k < l)=true:=by simpa using hk
     have hii:=HII.o;have HKK:=qh hk;have hl64:=HL.o.2.2.2;obtain ⟨b',o',rfl,hbl',hcell⟩:=(HP.o.below hb2).at_ (by omega);obtain ⟨hx,hy⟩:=hcell k hk;have hmem:((ls.getD i jyM).shares.getD k ([],[]))∈(ls.getD i jyM).shares:=jz6 (by rw [HLL.o];exact hk);have HSH:=qh (HI.o.share _ (HI.o.layer hii).1 _ hmem);have HST:=qh (jA4 (k:=k) (p:=(ls.getD i jyM).shares.getD k ([],[])) (by rw [HLL.o];exact hk) rfl);rw [HMM.o] at HST;obtain ⟨x1,hx1⟩:∃x,((ls.getD i jyM).shares.getD k ([],[])).1=x:=⟨_,rfl⟩;obtain ⟨x2,hx2⟩:∃x,((ls.getD i jyM).shares.getD k ([],[])).2=x:=⟨_,rfl⟩;obtain ⟨v,hv⟩:∃v,numQ ((ls.getD i jyM).shares.getD k ([],[])).2=v:=⟨_,rfl⟩;rw [hv] at HSH HST;rw [hx1] at hx HSH HST;rw [hx2] at hy HSH;have HT:=qh (jCe HI.o (k:=k) hii x1);have HCL:=qh (jAZ HI.o (k:=k) hii);obtain ⟨cs,hcs⟩:∃c,jzs ls i k=c:=⟨_,rfl⟩;rw [hcs] at HST HT HCL HQ;have HSM:Hd (SmallQ ((m:Int):Rat)):=qh (jzw (by have:=HL.o;omega) (by have:=HL.o;omega));obtain ⟨z,hz⟩:∃z,v*((m:Int):Rat)=z:=⟨_,rfl⟩;have HZ:=qh hz;rw [hz] at HST;clear hcell hmem hx1 hx2 hv hcs hz hk;go_upto_region 8 with (fail)
     go_cut [8] (fun u wx=>∃b11,u= .pointer (some ⟨b11,0,none⟩)∧wr.heap.size < b11∧b11 < wx.heap.size∧Below (wr.alloc (.cells #[bs x1,bs x2] 49)).heap.size (wr.alloc (.cells #[bs x1,bs x2] 49)) wx∧(∀o,wx.frozen? ⟨b11,o,none⟩=false)∧FAt wx b11 0 z)
     case first=>
      refine ja1 (fun w'=>Below (wr.alloc (.cells #[bs x1,bs x2] 49)).heap.size (wr.alloc (.cells #[bs x1,bs x2] 49)) w') [8] (by kernel_rfl) ?_;refine tl [(0,[1], .pointer (some ⟨wr.heap.size,1,none⟩)),(1,[2],bs x2),(3,[4], .pointer (some ⟨B8,1,none⟩)),(4,[5], .int .i64 m)] [_,_,_,_] rfl (by kernel_rfl) pk5 (by intros;simp only [tyq,ppq];go_simp) bq0 ?_;simp only [tlq,ppq];refine wa2 2 7 (by kernel_rfl) rfl rfl (fun K hK=> ?o1) (fun K hK=> ?o2)
      case' o1=>
       go_simp;go_wp2_with ((go_at_call 51;(with_reducible refine mf0 (jaz HSH.o.1 (HE.o.below bi)) fun w2x s2x A2x n2x c2x t2x B2x m2x d2x hr2x hq2x hb2x hc2x hf2x _=> ?_));(first|have hy2x_0:=szl (k:=wr.heap.size+1) hb2x (by first|go_size|fail)|have hy2x_0:=Nat.one_pos))
       refine hK.out _ _ (fun _=>bi) ?_;clear hK K;refine wa2 5 7 (by kernel_rfl) rfl rfl (fun K hK=> ?o3) (fun K hK=> ?o4)
       case' o3=>
        go_simp;go_wp2_with ((go_at_call 67;(with_reducible refine mo0 (jzd HSM.o) fun w3x hb3x hc3x hf3x _=> ?_));(first|have hy3x_0:=szl (k:=wr.heap.size+1) hb3x (by first|go_size|fail)|have hy3x_0:=Nat.one_pos);(first|have hy3x_1:=szl (k:=w2x.heap.size) hb3x (by first|go_size|fail)|have hy3x_1:=Nat.one_pos))
        refine hK.out _ _ (fun _=>bi) ?_;clear hK K;refine wa2 6 7 (by kernel_rfl) rfl rfl (fun K hK=> ?o5) (fun K hK=> ?o6)
        case' o5=>
         go_simp;go_wp2_with ((go_at_call 33;(with_reducible refine mf0 (jbO q 1 HZ.o (RepF.below ⟨hr2x,hq2x⟩ bi) (HSM.o.rep _) HSH.o.2.2 HSM.o.sz (by have:=HI.o.qle;omega)) fun w4x s4x A4x n4x c4x t4x B4x m4x d4x hr4x hq4x hb4x hc4x hf4x _=> ?_));(first|have hy4x_0:=szl (k:=wr.heap.size+1) hb4x (by first|go_size|fail)|have hy4x_0:=Nat.one_pos);(first|have hy4x_1:=szl (k:=w2x.heap.size) hb4x (by first|go_size|fail)|have hy4x_1:=Nat.one_pos);(first|have hy4x_2:=szl (k:=w3x.heap.size) hb4x (by first|go_size|fail)|have hy4x_2:=Nat.one_pos))
         refine hK.out _ _ (fun _=>bi) ?_;clear hK K;refine wa1 7 (by kernel_rfl) rfl (fun K hK=> ?_);go_simp;refine hK.out _ _ (fun _=>bi) ?_;clear hK K
        case' o6=>
         go_simp;refine hK.out _ _ (fun _=>bi) ?_;clear hK K;refine wa1 6 (by kernel_rfl) rfl (fun K hK=> ?_);go_simp;go_wp2_with ((go_at_call 33;(with_reducible refine mf0 (jbO q 1 HZ.o (RepF.below ⟨hr2x,hq2x⟩ bi) (HSM.o.rep _) HSH.o.2.2 HSM.o.sz (by have:=HI.o.qle;omega)) fun w4x s4x A4x n4x c4x t4x B4x m4x d4x hr4x hq4x hb4x hc4x hf4x _=> ?_));(first|have hy4x_0:=szl (k:=wr.heap.size+1) hb4x (by first|go_size|fail)|have hy4x_0:=Nat.one_pos);(first|have hy4x_1:=szl (k:=w2x.heap.size) hb4x (by first|go_size|fail)|have hy4x_1:=Nat.one_pos);(first|have hy4x_2:=szl (k:=w3x.heap.size) hb4x (by first|go_size|fail)|have hy4x_2:=Nat.one_pos))
         refine hK.out _ _ (fun _=>bi) ?_;clear hK K
       case' o4=>
        go_simp;refine hK.out _ _ (fun _=>bi) ?_;clear hK K;refine wa1 5 (by kernel_rfl) rfl (fun K hK=> ?_);go_simp;go_wp2_with ((go_at_call 67;(with_reducible refine mo0 (jzd HSM.o) fun w3x hb3x hc3x hf3x _=> ?_));(first|have hy3x_0:=szl (k:=wr.heap.size+1) hb3x (by first|go_size|fail)|have hy3x_0:=Nat.one_pos);(first|have hy3x_1:=szl (k:=w2x.heap.size) hb3x (by first|go_size|fail)|have hy3x_1:=Nat.one_pos))
        refine hK.out _ _ (fun _=>bi) ?_;clear hK K;refine wa1 6 (by kernel_rfl) rfl (fun K hK=> ?_);go_simp;go_wp2_with ((go_at_call 33;(with_reducible refine mf0 (jbO q 1 HZ.o (RepF.below ⟨hr2x,hq2x⟩ bi) (HSM.o.rep _) HSH.o.2.2 HSM.o.sz (by have:=HI.o.qle;omega)) fun w4x s4x A4x n4x c4x t4x B4x m4x d4x hr4x hq4x hb4x hc4x hf4x _=> ?_));(first|have hy4x_0:=szl (k:=wr.heap.size+1) hb4x (by first|go_size|fail)|have hy4x_0:=Nat.one_pos);(first|have hy4x_1:=szl (k:=w2x.heap.size) hb4x (by first|go_size|fail)|have hy4x_1:=Nat.one_pos);(first|have hy4x_2:=szl (k:=w3x.heap.size) hb4x (by first|go_size|fail)|have hy4x_2:=Nat.one_pos))
        refine hK.out _ _ (fun _=>bi) ?_;clear hK K
      case' o2=>
       go_simp;refine hK.out _ _ (fun _=>bi) ?_;clear hK K;refine wa1 2 (by kernel_rfl) rfl (fun K hK=> ?_);go_simp;go_wp2_with ((go_at_call 51;(with_reducible refine mf0 (jaz HSH.o.1 (HE.o.below bi)) fun w2x s2x A2x n2x c2x t2x B2x m2x d2x hr2x hq2x hb2x hc2x hf2x _=> ?_));(first|have hy2x_0:=szl (k:=wr.heap.size+1) hb2x (by first|go_size|fail)|have hy2x_0:=Nat.one_pos))
       refine hK.out _ _ (fun _=>bi) ?_;clear hK K;refine wa1 5 (by kernel_rfl) rfl (fun K hK=> ?_);go_simp;go_wp2_with ((go_at_call 67;(with_reducible refine mo0 (jzd HSM.o) fun w3x hb3x hc3x hf3x _=> ?_));(first|have hy3x_0:=szl (k:=wr.heap.size+1) hb3x (by first|go_size|fail)|have hy3x_0:=Nat.one_pos);(first|have hy3x_1:=szl (k:=w2x.heap.size) hb3x (by first|go_size|fail)|have hy3x_1:=Nat.one_pos))
       refine hK.out _ _ (fun _=>bi) ?_;clear hK K;refine wa1 6 (by kernel_rfl) rfl (fun K hK=> ?_);go_simp;go_wp2_with ((go_at_call 33;(with_reducible refine mf0 (jbO q 1 HZ.o (RepF.below ⟨hr2x,hq2x⟩ bi) (HSM.o.rep _) HSH.o.2.2 HSM.o.sz (by have:=HI.o.qle;omega)) fun w4x s4x A4x n4x c4x t4x B4x m4x d4x hr4x hq4x hb4x hc4x hf4x _=> ?_));(first|have hy4x_0:=szl (k:=wr.heap.size+1) hb4x (by first|go_size|fail)|have hy4x_0:=Nat.one_pos);(first|have hy4x_1:=szl (k:=w2x.heap.size) hb4x (by first|go_size|fail)|have hy4x_1:=Nat.one_pos);(first|have hy4x_2:=szl (k:=w3x.heap.size) hb4x (by first|go_size|fail)|have hy4x_2:=Nat.one_pos))
       refine hK.out _ _ (fun _=>bi) ?_;clear hK K
      all_goals
       have g2:=hb2x.size;have g3:=hb3x.size;have g4:=hb4x.size
       (try simp at g2 g3 g4)
       refine rd1 8 (by kernel_rfl) rfl (fun K hK=> ?_);go_simp;refine hK.out _ _ (fun h=>(h (by decide)).elim) ?_;clear hK K;refine ja2 (by kernel_rfl) ?_ _;go_wp2_with (fail)
       go_meet;refine ⟨_,rfl,(by (try simp);(try omega)),(by (try simp);(try omega)),(by with_reducible repeat first|exact bR|assumption|apply bA|apply bD|apply bN|refine bC ?_ (by go_size)|refine bS ?_ ‹_›), ?_,⟨⟨s4x,A4x,n4x,c4x,t4x,B4x,m4x,d4x, ?_, ?_, ?_, ?_,⟨?_, ?_⟩⟩⟩⟩
       all_goals (first
        | (intro o;simp [go_sem,hc2x,hc3x,hc4x,hf2x,hf3x,hf4x,jxf,hy2x_0,hy3x_0,hy3x_1,hy4x_0,hy4x_1,hy4x_2,nls hy2x_0,nls hy3x_0,nls hy3x_1];done)
        | (simp [go_sem,hc2x,hc3x,hc4x,hf2x,hf3x,hf4x,jxf,hy2x_0,hy3x_0,hy3x_1,hy4x_0,hy4x_1,hy4x_2,nls hy2x_0,nls hy3x_0,nls hy3x_1];done)
        | exact (by with_reducible repeat first|assumption|apply rZ|refine rP ?_ rfl (by simp [go_sem,hc2x,hc3x,hc4x,jxf,hy2x_0,hy3x_0,hy3x_1,hy4x_0,hy4x_1,hy4x_2,nls hy2x_0,nls hy3x_0,nls hy3x_1])))
     case rest=>
      obtain ⟨b11,rfl,h11a,h11b,hbc,hf11,hat11⟩:=hcut;have _:=bm hbc;obtain ⟨s6,A6,n6,c6,t6,B6,m6,d6,j0,j1,j2,j3,hr6⟩:=hat11.at_;simp only [Nat.zero_add] at j0 j1 j2 j3;have HR6:=qh hr6;have hbw:Below wr.heap.size wr wc:=ja0 (ja5 (Below.refl _ _) _) hbc;have hbW:Below w.heap.size w wc:=ja0 hb2 hbw;have y0:wc.cell? ⟨wr.heap.size,0,none⟩=some (bs x1):=ja9 hbc (by simp);have hszr:w.heap.size < wr.heap.size:=Nat.lt_trans hM8 hsz2;have hz10:wr.heap.size < wc.heap.size:=Nat.lt_trans h11a h11b;replace t8:=ja9 hbw t8;have HQw:=HQ;have h11w:wr.heap.size≤b11:=Nat.le_of_lt h11a;have h11r:w.heap.size < b11:=Nat.lt_trans hszr h11a;have _:=Sx.mk h11w;have h11q:w.heap.size≤b11:=Nat.le_of_lt (Nat.lt_of_le_of_lt hlt h11r);have _:=Sx.mk h11q;have h118:B8 < b11:=Nat.lt_trans hsz2 h11a;replace HQ:=qh (HQ.o.below hbw);replace hsz2:=Nat.lt_trans hsz2 hz10;replace hszr:=Nat.lt_trans hszr hz10;obtain ⟨B10,hB10⟩:∃x,wr.heap.size=x:=⟨_,rfl⟩;rw [hB10] at y0 h11a hz10;simp only [hB10];clear hat11 hr6 hbc hb2 hB10;have HXL:=qh HSH.o.2.1;cases hh:jzj cs x1 with
      | false=>
        have HH:=qh hh
        have HIF:Hd (∀W,Below wc.heap.size wc W→IsF W (fv s6 A6 n6 c6 t6 B6 m6 d6) (z+tot cs x1)):=qh (fun W hb=>by
         rw [jzM hh,Rat.add_zero]
         exact ⟨s6,A6,n6,c6,t6,B6,m6,d6,rfl,HR6.o.below hb⟩)
        clear hh
        go_wp2_with (first
         | (at_lookup;refine jAC HQ.o HXL.o HH.o rfl _ _ rfl rfl rfl ?_)
         | (at_mapUpdate;refine jzq (q:=z) (HQ.o.below bi) (Nat.lt_of_le_of_lt HCL.o (by omega)) HXL.o (HIF.o _ bi) rfl _ _ _ rfl rfl rfl rfl ?_;intro w5 D5 hmq5 hg5))
        have hBx:Below w.heap.size w (wc.alloc (.cells #[.int .i64 0, .slice none 0 0, .int .i64 0, .slice none 0 0] 70)):=ja5 hbW _
        exact ⟨⟨k+1,D5,by simp,HKK.o,Below.trans hBx (jab hg5 hBx.size (fun j hj=>by cases hj;exact hlt)),Nat.lt_of_lt_of_le (by rw [World.size_alloc];omega) hg5.size,
         hg5.cell (jyH t8 _) (by simp;omega),
         by rw [←HST.o,List.length_append];exact hmq5⟩,by have:=HKK.o;simp [intOf];omega⟩
      | true=>
        have HH:=qh hh;obtain ⟨v0,hv0,s9,A9,n9,c9,t9,B9,m9,d9,rfl,hr9⟩:=HQ.o.val x1 hh;have HAT:=qh hv0;have HR9:=qh hr9;clear hh hv0 hr9
        go_wp2_with (first
         | (at_lookup;refine jzF HQ.o HXL.o HH.o HAT.o rfl _ _ rfl rfl rfl ?_)
         | ((go_at_call 114;(with_reducible refine mf0 (jo7 (q+1) 82000 rfl (HR6.o.below bi) (HR9.o.below bi) (by rw [←HZ.o];exact HSH.o.2.2.mul HSM.o.sz) HT.o (by have:=HI.o.qle;omega)) fun w7 s7 A7 n7 c7 t7 B7 m7 d7 hr7 hq7 hb7 hc7 hf7 _=> ?_));(have bW7:Below wc.heap.size wc w7:=bi);have k70:=ja9 bW7 j0;have k71:=ja9 bW7 j1;have k72:=ja9 bW7 j2;have k73:=ja9 bW7 j3;have y7:=ja9 bW7 y0;have kf7:(∀o,w7.frozen? ⟨b11,o,none⟩=false):=fun o=>jz0 bW7 h11b hf11 o;have z7:=Nat.lt_of_lt_of_le h11b bW7.size)
         | (at_mapUpdate;refine jzq (q:=z) (HQw.o.below bi) (Nat.lt_of_le_of_lt HCL.o (by omega)) HXL.o ⟨s7,A7,n7,c7,t7,B7,m7,d7,rfl,(by constructor <;> (with_reducible repeat first|assumption|apply rZ|refine rP ?_ rfl (by simp [go_sem,k70,k71,k72,k73])))⟩ rfl _ _ _ rfl rfl rfl rfl ?_;intro w5 D5 hmq5 hg5))
        have bW7:Below wc.heap.size wc w7:=bi;have q8:=ja9 bW7 t8;have z87:=Nat.lt_of_lt_of_le hsz2 bW7.size;have ne2:=nl h118;have hBx:Below w.heap.size w ((((w7.setCell ⟨b11,0,none⟩ (.int .i64 s7)).setCell ⟨b11,1,none⟩ (.slice A7 n7 c7)).setCell ⟨b11,2,none⟩ (.int .i64 t7)).setCell ⟨b11,3,none⟩ (.slice B7 m7 d7)):=bi
        exact ⟨⟨k+1,D5,by simp,HKK.o,Below.trans hBx (jab hg5 hBx.size (fun j hj=>by cases hj;exact hlt)),Nat.lt_of_lt_of_le (by simp;exact z87) hg5.size,
         hg5.cell (by simp [go_sem,q8,ne2]) (by simp;omega),
         by rw [←HST.o,List.length_append];exact hmq5⟩,by have:=HKK.o;simp [intOf];omega⟩
    ·have p1:decide (k < l)=false:=by simp;omega
     have hkl':k=l:=by omega
     have HEND:=qh (jAy (ls:=ls) (i:=i) (by rw [HI.o.view.len];exact HII.o));rw [HLL.o] at HEND;subst hkl';clear hk;go_wp2
     go_roundw
     case rel=>exact ⟨i+1,D,by simp,HII.o,hb2,by rw [←HEND.o];exact HQ.o⟩
     case measure=>have:=HII.o;simp [intOf];omega
  ·have p0:decide (i < n)=false:=by simp;omega
   have hq:=HQ.o;rw [List.take_of_length_le (by rw [HI.o.view.len];omega)] at hq;go_wp2;go_ret;exact ⟨_,_,rfl,hlt,hq,bi⟩
end
end Go.Proofs.YtfagcpcikjlboaaGreatDoor
