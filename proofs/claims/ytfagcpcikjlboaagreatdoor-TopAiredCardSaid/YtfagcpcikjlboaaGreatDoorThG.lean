/- Parts. -/
import Derived.Test.YtfagcpcikjlboaaGreatDoorZhG
set_option linter.all false
set_option maxRecDepth 100000
set_option maxHeartbeats 8000000
namespace Go.Proofs.YtfagcpcikjlboaaGreatDoor
open Go Go.RowKit Go.Proofs.Tryz

def fzb:List Int→Int
 | []=>0
 | x::r=>if x=0 then fzb r else x
theorem jAa {g:List UInt8}:∀{l:List Lay} {s m:Int},jAT g s l=(m,0)→m=s+jzD l∧m≤999999999∧∀x∈l,x.grain=g
 | [],s,m,h=>by
   rw [jAT] at h;split at h
   ·simp at h
   ·simp at h;subst h;exact ⟨by simp [jzD],by omega,fun x hx=>by cases hx⟩
 | x::r,s,m,h=>by
   rw [jAT] at h;split at h
   ·rename_i e
    obtain ⟨h1,h2,h3⟩:=jAa h;refine ⟨by rw [h1,jzD];omega,h2,fun y hy=> ?_⟩;rcases List.mem_cons.1 hy with rfl|hy
    ·exact e
    ·exact h3 y hy
   ·simp at h
theorem jzV {ls:List Lay} {i:Nat} (h:i < ls.length):jzD (ls.take (i+1))=jzD (ls.take i)+(ls.getD i jyM).mass:=by
 rw [jzQ h rfl,jA5]
section
variable {w:World}
theorem jz7 {b:Bool} {k r:Int} (hr:(if b then k else 0)=r):Calls prog 56 #[.bool b, .int .i64 k] w fun e w'=>e= .returned (.int .i64 r)∧Below w.heap.size w w':=by
 subst hr;cases b
 all_goals go_enter func56,ntmps56
 all_goals go_wp2
 all_goals go_ret
 all_goals exact ⟨rfl,bi⟩
variable {g n c:Nat} {zs:List Int}
theorem jA0 {r:Int} (hn:n≤1000) (hl:zs.length=n) (hg:∀j,j < n→w.cell? ⟨g,j,none⟩=some (.int .i64 (zs.getD j 0))) (hr:fzb zs=r):Calls prog 54 #[.slice (some ⟨g,0,none⟩) n c] w fun e w'=>e= .returned (.int .i64 r)∧Below w.heap.size w w':=by
 have HG:=qh hg;have HN:=qh hn;have HL:=qh hl;have HR:=qh hr;clear hg hn hl hr;go_enter func54,ntmps54;go_wp2
 go_loopw [7] (fun u wr=>∃(i:Nat),u= .int .i64 (i:Int)∧i≤n∧Below w.heap.size w wr∧fzb (zs.drop i)=r) (fun u _=>n - (intOf u).toNat)
 case atStart=>exact ⟨0,rfl,Nat.zero_le _,bi,HR.o⟩
 case round=>
  obtain ⟨i,rfl,hin,hb,hc⟩:=hrel;have _:=bm hb;have hnn:=HN.o;by_cases hi:i < n
  ·have p0:decide (i < n)=true:=by simpa using hi
   have k0:=ja9 hb (HG.o i hi);rw [jd5 (d:=0) (by rw [HL.o];exact hi)] at hc;obtain ⟨x,hx⟩:∃x,zs.getD i 0=x:=⟨_,rfl⟩;rw [hx] at k0 hc;by_cases hx0:x=0
   ·subst hx0
    have hc2 : fzb (zs.drop (i + 1)) = r := by rw [←hc];conv=>rhs;unfold fzb
                                               rw [if_pos rfl]
    clear hc;go_wp2
    go_roundw
    case rel=>exact ⟨i+1,by simp,by omega,bi,hc2⟩
    case measure=>simp [intOf];omega
   ·have hR:x=r:=by rw [←hc];unfold fzb;rw [if_neg hx0]
    subst hR;clear hc;go_wp2;go_ret;exact ⟨rfl,bi⟩
  ·have:i=n:=by omega
   subst this;have p0:decide (i < i)=false:=by simp
   rw [List.drop_eq_nil_of_le (by rw [HL.o];exact Nat.le_refl _)] at hc;have hR:r=0:=hc.symm;subst hR;go_wp2;go_ret;exact ⟨rfl,bi⟩
variable {A:Option Addr} {ls:List Lay}
theorem jB6 {i:Nat} (h:∀x∈ls,0≤x.mass∧x.mass≤999999999):0≤jzD (ls.take i)∧jzD (ls.take i)≤999999999*i:=by
 induction i with
 | zero=>simp [jzD]
 | succ i ih=>
   by_cases hi:i < ls.length
   ·have h1:=h (ls.getD i jyM) (by rw [List.getD_eq_getElem?_getD,List.getElem?_eq_getElem hi];exact List.getElem_mem hi);rw [jzV hi]
    push_cast
    omega
   ·rw [List.take_of_length_le (by omega)] at ih ⊢
    push_cast
    omega
theorem jBq {s:Int} (hv:Lv w A n ls) (hn:n≤1000) (hm:∀x∈ls,0≤x.mass∧x.mass≤999999999) (hs:jzD ls=s):Calls prog 57 #[.slice A n c] w fun e w'=>e= .returned (.int .i64 s)∧Below w.heap.size w w':=by
 have HV:=qh hv;have HN:=qh hn;have HM:=qh hm;have HS:=qh hs;clear hv hn hm hs;go_enter func57,ntmps57;go_wp2
 go_loopw [3,8] (fun v u wr=>∃(i:Nat) (t:Int),v= .int .i64 t∧u= .int .i64 (i:Int)∧Below w.heap.size w wr∧i≤n∧jzD (ls.take i)=t) (fun _ u _=>n - (intOf u).toNat)
 case atStart=>exact ⟨0,0,rfl,rfl,bi,Nat.zero_le _,by simp [jzD]⟩
 case round=>
  obtain ⟨i,t,rfl,rfl,hb,hin,hc⟩:=hrel;have _:=bm hb;have hnn:=HN.o;by_cases hi:i < n
  ·have p0:decide ((i:Int) < (n:Int))=true:=by simpa using hi
   have hil:i < ls.length:=by rw [HV.o.len];exact hi
   obtain ⟨b,o,rfl,hbl,hat⟩:=(HV.o.below hb).at_ (by omega);obtain ⟨B,d,k0,k1,k2,_⟩:=(hat i hi).at_;have hmm:=jzV hil;have hp:=jB6 (i:=i) HM.o;have hm1:=HM.o (ls.getD i jyM) (by rw [List.getD_eq_getElem?_getD,List.getElem?_eq_getElem hil];exact List.getElem_mem hil);obtain ⟨⟨x1,x2,x3⟩,hx⟩:∃x,ls.getD i jyM=x:=⟨_,rfl⟩;rw [hx] at k0 k1 k2 hmm hm1;dsimp only at k0 k1 k2 hmm hm1;rw [hc] at hmm hp;have hw:wrap64 (t+x2)=t+x2:=by unfold wrap64;omega
   have HI:=qh hi;have HC:=qh hmm;obtain ⟨l3,hl3⟩:∃l,x3.length=l:=⟨_,rfl⟩;rw [hl3] at k2;clear hat hx hil hl3 hmm hp hm1 hc hi;go_wp2;exact ⟨⟨i+1,t+x2,by simp [hw],by simp,bi,HI.o,HC.o⟩,by have:=HI.o;simp [intOf];omega⟩
  ·have p0:decide ((i:Int) < (n:Int))=false:=by simp;omega
   rw [List.take_of_length_le (by rw [HV.o.len];omega),HS.o] at hc;subst hc;go_wp2;go_ret;exact ⟨rfl,bi⟩
structure ParIn (w:World) (A:Option Addr) (n:Nat) (ls:List Lay):Prop where
 view:Lv w A n ls
 le:n≤64
 lay:∀x∈ls,LayIn x
 ok:jar jyR ls=0
 sum:jzD ls≤999999999
theorem ParIn.below {w':World} (h:ParIn w A n ls) (hb:Below w.heap.size w w'):ParIn w' A n ls:=⟨h.view.below hb,h.le,h.lay,h.ok,h.sum⟩
theorem ParIn.mass (h:ParIn w A n ls):∀x∈ls,1≤x.mass∧x.mass≤999999999:=fun x hx=>by
 have:=jyL (jyJ h.ok x hx);exact ⟨this.2.1,this.2.2.1⟩
theorem ParIn.total (h:ParIn w A n ls) {s:Int} (hs:jzD ls=s):Calls prog 57 #[.slice A n c] w fun e w'=>e= .returned (.int .i64 s)∧Below w.heap.size w w':=
 jBq h.view (by have:=h.le;omega) (fun x hx=>by have:=h.mass x hx;omega) hs
theorem jA7 (hE:Env w) (h:ParIn w A n ls):Calls prog 55 #[.slice A n c] w fun e w'=>e= .returned (.int .i64 0)∧Below w.heap.size w w':=by
 have H:=qh h;have HE:=qh hE;have HN:=qh h.le;have q0:decide ((64:Int) < (n:Int))=false:=by rw [decide_eq_false_iff_not];have:=h.le;omega
 obtain ⟨s,hs⟩:∃s,jzD ls=s:=⟨_,rfl⟩;have q1:decide ((999999999:Int) < s)=false:=by rw [decide_eq_false_iff_not];have:=h.sum;omega
 have HT:=qh (fun W (hb:Below w.heap.size w W)=>(h.below hb).total (c:=c) hs);clear h hE hs;go_enter func55,ntmps55;go_wp2
 go_loopw [11] (fun u wr=>∃(i:Nat),u= .int .i64 (i:Int)∧Below w.heap.size w wr∧i≤n) (fun u _=>n - (intOf u).toNat)
 case atStart=>exact ⟨0,rfl,bi,Nat.zero_le _⟩
 case round=>
  obtain ⟨i,rfl,hb,hin⟩:=hrel;have _:=bm hb;by_cases hi:i < n
  ·have p0:decide ((i:Int) < (n:Int))=true:=by simpa using hi
   have hil:i < ls.length:=by rw [H.o.view.len];exact hi
   have hmem:ls.getD i jyM∈ls:=by rw [List.getD_eq_getElem?_getD,List.getElem?_eq_getElem hil];exact List.getElem_mem hil
   obtain ⟨b,o,rfl,hbl,hat⟩:=(H.o.view.below hb).at_ (by omega);obtain ⟨B,d,k0,k1,k2,kp⟩:=(hat i hi).at_
   have HX:Hd (∀W,Below wr.heap.size wr W→Calls prog 105 #[.agg #[bs (ls.getD i jyM).grain, .int .i64 (ls.getD i jyM).mass, .slice B (ls.getD i jyM).shares.length d]] W fun e w'=>e= .returned (.int .i64 0)∧Below W.heap.size W w'):=
    qh (fun W hW=>jzH (jyJ H.o.ok _ hmem) (HE.o.below (ja0 hb hW)) (kp.below hW) (H.o.lay _ hmem))
   obtain ⟨x1,hx1⟩:∃y,(ls.getD i jyM).grain=y:=⟨_,rfl⟩;obtain ⟨x2,hx2⟩:∃y,(ls.getD i jyM).mass=y:=⟨_,rfl⟩;obtain ⟨x3,hx3⟩:∃y,(ls.getD i jyM).shares.length=y:=⟨_,rfl⟩;rw [hx1] at k0 HX;rw [hx2] at k1 HX;rw [hx3] at k2 HX;have hnn:=HN.o;have HI:=qh hi;clear hat hil hmem hx1 hx2 hx3 kp hi;go_wp2_with (go_at_call 105;(with_reducible refine mo0 (HX.o _ bi) fun w1 hb1 hc1 hf1 _=> ?_))
   exact ⟨⟨i+1,by simp,bi,HI.o⟩,by have:=HI.o;simp [intOf];omega⟩
  ·have p0:decide (i < n)=false:=by simp;omega
   clear hi;go_wp2_with (first|(go_at_call 57;(with_reducible refine mo0 (HT.o _ bi) fun w1 hb1 hc1 hf1 _=> ?_))|(go_at_call 56;(with_reducible refine mo0 (jz7 rfl) fun w2 hb2 hc2 hf2 _=> ?_)))
   go_ret;exact ⟨by simp,bi⟩
end

section
variable {w:World} {A B:Option Addr} {n c k d p:Nat} {ls:List Lay} {g:List UInt8} {m:Int}
theorem jCk (h:w.cell? ⟨p,0,none⟩=some (.slice A n c)) (hv:Lv w A n ls) (h0:0 < n) (hg:(ls.getD 0 jyM).grain=g):
  Calls prog 107 #[.agg #[bs g, .int .i64 m, .slice B k d], .pointer (some ⟨p,0,none⟩)] w fun e w'=>e= .returned (.bool false)∧Below w.heap.size w w':=by
 obtain ⟨b,o,rfl,hbl,hat⟩:=hv.at_ h0;obtain ⟨B',d',k0,_⟩:=(hat 0 h0).at_;rw [hg,Nat.zero_mul,Nat.add_zero] at k0;have z1:=World.block_lt_of_cell? w _ h;dsimp only at z1;have z2:0 < n:=h0;clear hat hg hv h0;go_enter func107,ntmps107;go_upto_region 1 with (fail)
 refine ja1 (fun w'=>Below (w.alloc (.cells #[bs g, .int .i64 m, .slice B k d] 52)).heap.size (w.alloc (.cells #[bs g, .int .i64 m, .slice B k d] 52)) w') [] (by kernel_rfl) ?_;refine tl [(0,[], .pointer (some ⟨w.heap.size,0,none⟩)),(1,[],bs g),(2,[], .slice (some ⟨b,o,none⟩) n c),(3,[], .pointer (some ⟨b,o,none⟩)),(4,[], .pointer (some ⟨b,o,none⟩)),(5,[],bs g)] [_,_,_,_,_,_] rfl (by kernel_rfl) pk5 (by intros;simp only [tyq,ppq];go_simp) bq0 ?_;simp only [tlq,ppq];refine rd1 6 (by kernel_rfl) rfl (fun K hK=> ?_);go_simp;refine hK.out _ _ (fun _=>bi) ?_;clear hK K;refine rd1 7 (by kernel_rfl) rfl (fun K hK=> ?_);go_simp;refine hK.out _ _ (fun _=>bi) ?_;clear hK K;refine ja2 (by kernel_rfl) ?_ _;go_wp2;go_ret;exact ⟨by simp,bi⟩
theorem jBX (h:w.cell? ⟨p,0,none⟩=some (.slice A n c)) (hv:Lv w A n ls) (h0:0 < n) (hn:n≤1000) (hg:∀x∈ls,x.grain=g):
  Calls prog 152 #[.slice A n c, .func (.func 107) #[] #[.pointer (some ⟨p,0,none⟩)]] w fun e w'=>e= .returned (.int .i64 (-1))∧Below w.heap.size w w':=by
 have H:=qh h;have HV:=qh hv;have H0:=qh h0;have HN:=qh hn;have HG:=qh hg;clear h hv h0 hn hg;go_enter func152,ntmps152;go_wp2
 go_loopw [8] (fun u wr=>∃(i:Nat),u= .int .i64 (i:Int)∧i≤n∧Below w.heap.size w wr) (fun u _=>n - (intOf u).toNat)
 case atStart=>exact ⟨0,rfl,Nat.zero_le _,bi⟩
 case round=>
  obtain ⟨i,rfl,hin,hb⟩:=hrel;have _:=bm hb;have hnn:=H0.o;have hn1:=HN.o;by_cases hi:i < n
  ·have p0:decide (i < n)=true:=by simpa using hi
   have hmem:∀j,j < n→ls.getD j jyM∈ls:=fun j hj=>by
    have hil:j < ls.length:=by rw [HV.o.len];exact hj
    rw [List.getD_eq_getElem?_getD,List.getElem?_eq_getElem hil];exact List.getElem_mem hil
   have HF:Hd (∀W,Below wr.heap.size wr W→∀B k d m,Calls prog 107 #[.agg #[bs g, .int .i64 m, .slice B k d], .pointer (some ⟨p,0,none⟩)] W fun e w'=>e= .returned (.bool false)∧Below W.heap.size W w'):=
    qh (fun W hW B k d m=>jCk (ja9 (ja0 hb hW) H.o) (HV.o.below (ja0 hb hW)) H0.o (HG.o _ (hmem 0 hnn)))
   have hgi:=HG.o _ (hmem i hi);obtain ⟨b,o,rfl,hbl,hat⟩:=(HV.o.below hb).at_ (by omega);obtain ⟨B,d,k0,k1,k2,_⟩:=(hat i hi).at_;rw [hgi] at k0;obtain ⟨x2,hx2⟩:∃y,(ls.getD i jyM).mass=y:=⟨_,rfl⟩;obtain ⟨x3,hx3⟩:∃y,(ls.getD i jyM).shares.length=y:=⟨_,rfl⟩;rw [hx2] at k1;rw [hx3] at k2;clear hat hmem hgi hx2 hx3;go_wp2_with (go_at_call 107;(with_reducible refine mo0 (HF.o _ bi _ _ _ _) fun w1 hb1 hc1 hf1 _=> ?_))
   go_roundw
   case rel=>exact ⟨i+1,by simp,by omega,bi⟩
   case measure=>simp [intOf];omega
  ·have:i=n:=by omega
   subst this;have p0:decide (i < i)=false:=by simp
   go_wp2;go_ret;exact ⟨rfl,bi⟩
theorem jBO (h:w.cell? ⟨p,0,none⟩=some (.slice A n c)) (hv:Lv w A n ls) (h0:0 < n) (hn:n≤1000) (hg:∀x∈ls,x.grain=g):
  Calls prog 106 #[.slice A n c, .func (.func 107) #[] #[.pointer (some ⟨p,0,none⟩)]] w fun e w'=>e= .returned (.bool false)∧Below w.heap.size w w':=by
 have HI:=qh (jBX h hv h0 hn hg);clear h hv h0 hn hg;go_enter func106,ntmps106;go_wp2_with (go_at_call 152;(with_reducible refine mo0 (HI.o) fun w1 hb1 hc1 hf1 _=> ?_))
 go_ret;exact ⟨rfl,bi⟩
theorem jBm (hv:Lv w A n ls) (h0:0 < n) (hn:n≤1000) (hg:∀x∈ls,x.grain=g):Calls prog 58 #[.slice A n c] w fun e w'=>e= .returned (.int .i64 0)∧Below w.heap.size w w':=by
 have HC:=qh (fun W (hb:Below w.heap.size w W) p (h:W.cell? ⟨p,0,none⟩=some (.slice A n c))=>jBO h (hv.below hb) h0 hn hg);clear hv h0 hn hg;go_enter func58,ntmps58;go_wp2_with (first|(go_at_call 106;(with_reducible refine mo0 (HC.o _ bi _ (by simp)) fun w1 hb1 hc1 hf1 _=> ?_))|(go_at_call 56;(with_reducible refine mo0 (jz7 rfl) fun w2 hb2 hc2 hf2 _=> ?_)))
 go_ret;exact ⟨by simp,bi⟩
end
section
variable {w:World} {A:Option Addr} {n c:Nat} {ls:List Lay} {ps:List (List UInt8×List UInt8)} {g:List UInt8} {m m':Int}
theorem jA8 (h:Pv w A n ps) (h0:0 < n) (hn:n≤100000):Calls prog 115 #[.slice A n c] w fun e w'=>∃B d,e= .returned (.slice B n d)∧jzi w' w.heap.size (.slice B n d) n ps∧Below w.heap.size w w':=by
 have q:∀(w:World) (a:Option Addr) (n c n' c':Nat),(binOp .eql 50 (.slice a n c) (.slice none n' c')).run prog w= .ok (.bool a.isNone) w:=fun w a n c n' c'=>Lib.run_eql_slice_nil w _ _ a n c n' c' underlying50
 obtain ⟨b,o,rfl,hbl,hat⟩:=h.at_ h0;have HL:=qh h.len;have HN:=qh (ai h0 hn)
 have HC:Hd (∀j,j < n→(w.alloc (.cells #[] 49)).cell? ⟨b,o+j*2,none⟩=some (bs (ps.getD j ([],[])).1)∧(w.alloc (.cells #[] 49)).cell? ⟨b,o+j*2+1,none⟩=some (bs (ps.getD j ([],[])).2)):=
  qh (fun j hj=>⟨jyH (hat j hj).1 _,jyH (hat j hj).2 _⟩)
 have HO:=qh (jC0 w);clear h h0 hn hat;go_enter func115,ntmps115;go_wp2_with (at_builtin;(with_reducible refine jzh (n:=0) (m:=n) (N:=n) (qs:=ps) rfl _ _ rfl rfl rfl rfl HO.o (by omega) HN.o.2 (Nat.zero_add n) (by rw [World.size_alloc];omega) HL.o HC.o ?_);intro A5 c5 w5 k1 k2 k3)
 go_ret;exact ⟨_,_,rfl,k1,jab k2 (by rw [World.size_alloc];omega) (fun j hj=>by cases hj;exact Nat.le_refl _) |> Below.trans (ja5 (Below.refl _ _) _)⟩
theorem jBn:(prog.info? 52).map (fun i=>(i.zero,i.size,i.bytes))=some (some (.agg #[.string ByteArray.empty, .int .i64 0, .slice none 0 0]),3,48):=by kernel_rfl
structure LvR (w:World) (b o n:Nat) (ls:List Lay) (xs:List Value):Prop where
 len:xs.length=n*3
 view:Lv w (some ⟨b,o,none⟩) n ls
 cell:∀j,j < n*3→w.cell? ⟨b,o+j,none⟩=xs[j]?
 one:∀u∈xs,u.oneCell'=true
theorem LvR.mk' {b o:Nat} (h:Lv w (some ⟨b,o,none⟩) n ls) (h0:0 < n):∃xs,LvR w b o n ls xs:=by
 obtain ⟨b',o',e,hbl,hat⟩:=h.at_ h0;cases e
 have hc:∀j,j < n*3→∃u,w.cell? ⟨b,o+j,none⟩=some u∧u.oneCell'=true:=fun j hj=>by
  obtain ⟨B,d,k0,k1,k2,_⟩:=(hat (j / 3) (by omega)).at_;rcases (show j % 3=0∨j % 3=1∨j % 3=2 by omega) with e|e|e
  ·rw [show o+j=o+j / 3*3 by omega];exact ⟨_,k0,rfl⟩
  ·rw [show o+j=o+j / 3*3+1 by omega];exact ⟨_,k1,rfl⟩
  ·rw [show o+j=o+j / 3*3+2 by omega];exact ⟨_,k2,rfl⟩
 refine ⟨(List.range (n*3)).map fun j=>(w.cell? ⟨b,o+j,none⟩).getD undef,by simp,h,fun j hj=> ?_,fun u hu=> ?_⟩
 ·obtain ⟨u,hu,_⟩:=hc j hj;rw [List.getElem?_map,List.getElem?_range hj,Option.map_some,hu,Option.getD_some]
 ·obtain ⟨j,hj,rfl⟩:=List.mem_map.1 hu;obtain ⟨u,hu,h1⟩:=hc j (List.mem_range.1 hj);rw [hu,Option.getD_some];exact h1
theorem LvR.same {b o g:Nat} {xs:List Value} {w':World} (h:LvR w b o n ls xs) (hb:Below w.heap.size w w') (hg:g < w'.heap.size) (hc:∀j,j < n*3→w'.cell? ⟨g,j,none⟩=xs[j]?):Lv w' (some ⟨g,0,none⟩) n ls:=by
 refine ⟨h.view.len,fun h0=>⟨g,0,rfl,hg,fun j hj=> ?_⟩⟩;obtain ⟨b',o',e,hbl,hat⟩:=h.view.at_ h0;cases e
 obtain ⟨B,d,k0,k1,k2,kp⟩:=(hat j hj).at_;refine ⟨⟨B,d, ?_, ?_, ?_,kp.below hb⟩⟩
 ·rw [Nat.zero_add,hc _ (by omega),←h.cell _ (by omega)];exact k0
 ·rw [Nat.zero_add,hc _ (by omega),←h.cell _ (by omega)];exact k1
 ·rw [Nat.zero_add,hc _ (by omega),←h.cell _ (by omega)];exact k2
abbrev jBf (w:World) (base:Nat) (v:Value) (n:Nat) (xs:List Value):Prop:=w.ownsRow base 52 3 v n xs
theorem jBD (w:World):jBf (w.alloc (.cells #[] 52)) w.heap.size (.slice (some ⟨w.heap.size,0,none⟩) 0 0) 0 []:=World.ownsRow_made w #[] 0 (Nat.le_refl _) (Nat.zero_le _) rfl
theorem jzg {ops:Array Oper} {rest:List Oper} {oo:Oper} {a:Act} {Q:Exit→Act→World→Prop} {w:World} {base n b o c:Nat} {v:Value} {xs:List Value} (hg:oo.guard=none) (s y:Operand)
  (ho:oo.op= .call { callee:= .builtin .append,args:= #[s,y],argTypes:= #[53,53] }) (ht:oo.type=53) (hs:a.eval s=v) (hy:a.eval y= .slice (some ⟨b,o,none⟩) n c)
  (h:jBf w base v 0 []) (hn:n≤100000) (hb:base≤w.heap.size) (hl:xs.length=n*3) (hc:∀j,j < n*3→w.cell? ⟨b,o+j,none⟩=xs[j]?) (h1:∀u∈xs,u.oneCell'=true) (h0:0 < n)
  (hK:∀g c' w',jBf w' base (.slice (some ⟨g,0,none⟩) n c') n xs→w.grownBy w' v.ownBlock→wpList prog ops Q rest (a.put oo.dst (.slice (some ⟨g,0,none⟩) n c')) w'):wpList prog ops Q (oo::rest) a w:=by
 obtain ⟨i,hi,hz0,hz1,hz2⟩:=info_parts jBn
 obtain ⟨v',w',hr,k1,k2,_,k3⟩:=run_append_own_at (P:=prog) w base 53 53 52 i _ 3 48 underlying53 hi hz0 hz1 hz2 rfl (by decide) v 0 [] h ⟨b,o,none⟩ n c xs hl
  (by
    intro j u hu
    have hj:j < n*3:=by
     have:=(List.getElem?_eq_some_iff.1 hu).1;rw [hl] at this;exact this
    have e:(⟨b,o,none⟩:Addr).add j=⟨b,o+j,none⟩:=by unfold Addr.add;split <;> simp_all
    rw [e,hc j hj,hu])
  h1 (by simp only [maxLen];omega) (by omega) hb
 rw [Nat.zero_add,List.nil_append] at k1;rcases k1.2 with ⟨_,h2⟩|⟨g,cap,cur,rfl,_⟩
 ·omega
 ·refine wpList_plain hg fun K' hK'=> ?_
  exact jiI s y ho hs hy (by rw [ht];exact hr) (hK' _ _ (hK g cap w' k1 k2))
theorem jzY {b o:Nat} {xs:List Value} (h:LvR w b o n ls xs) (h0:0 < n) (hn:n≤100000):Calls prog 109 #[.slice (some ⟨b,o,none⟩) n c] w fun e w'=>∃g d,e= .returned (.slice (some ⟨g,0,none⟩) n d)∧jBf w' w.heap.size (.slice (some ⟨g,0,none⟩) n d) n xs∧Below w.heap.size w w':=by
 have q:∀(w:World) (a:Option Addr) (n c n' c':Nat),(binOp .eql 53 (.slice a n c) (.slice none n' c')).run prog w= .ok (.bool a.isNone) w:=fun w a n c n' c'=>Lib.run_eql_slice_nil w _ _ a n c n' c' underlying53
 have HN:=qh (ai h0 hn)
 have HC:Hd (∀j,j < n*3→(w.alloc (.cells #[] 52)).cell? ⟨b,o+j,none⟩=xs[j]?):=qh (fun j hj=>by
  obtain ⟨u,hu⟩:∃u,xs[j]? =some u:=⟨_,List.getElem?_eq_getElem (by rw [h.len];exact hj)⟩;rw [hu]
  exact jyH ((h.cell j hj).trans hu) _)
 have HO:=qh (jBD w);have HL:=qh (ai h.len h.one);clear h h0 hn;go_enter func109,ntmps109;go_wp2_with (at_builtin;(with_reducible refine jzg (n:=n) (xs:=xs) rfl _ _ rfl rfl rfl rfl HO.o HN.o.2 (by rw [World.size_alloc];omega) HL.o.1 HC.o HL.o.2 HN.o.1 ?_);intro g5 c5 w5 k1 k2)
 go_ret;exact ⟨_,_,rfl,k1,Below.trans (ja5 (Below.refl _ _) _) (jab k2 (by rw [World.size_alloc];omega) (fun j hj=>by cases hj;exact Nat.le_refl _))⟩
theorem jCh (h:Pv w A n ps) (h0:0 < n) (hn:n≤100000):Calls prog 62 #[.agg #[bs g, .int .i64 m, .slice A n c], .int .i64 m'] w fun e w'=>∃B d,e= .returned (.agg #[bs g, .int .i64 m', .slice B n d])∧Pv w' B n ps∧Below w.heap.size w w':=by
 have HC:=qh (fun W (hb:Below w.heap.size w W)=>jA8 (c:=c) (h.below hb) h0 hn);have HL:=qh (ai h.len h0);clear h h0 hn;have l2:w.heap.size < w.heap.size+1+1:=by omega
 go_enter func62,ntmps62;go_wp2_with (go_at_call 115;(with_reducible refine (HC.o _ bi).mono ?_);rintro e1 w1 ⟨B1,d1,rfl,hp1,hb1⟩;obtain ⟨hc1,hf1,z1_0,z1_1,_⟩:=bc2 w hb1 (by go_size))
 have hk0:=jzN hp1;have hk:∀g,(Value.slice B1 n d1).ownBlock=some g→w.heap.size+2≤g:=fun g hg=>by have:=hk0 g hg;simp at this;omega
 have hne:∀j,j < w.heap.size+2→(Value.slice B1 n d1).ownBlock=none∨(Value.slice B1 n d1).ownBlock≠some j:=fun j hj=>by
  cases hv:(Value.slice B1 n d1).ownBlock with
  | none=>exact .inl rfl
  | some y=>exact .inr (fun e=>by have:=hk y hv;cases e;omega)
 have g1:w1.grownBy ((w1.setCell ⟨w.heap.size,1,none⟩ (.int .i64 m')).setCell ⟨w.heap.size,2,none⟩ (.slice B1 n d1)) (some w.heap.size):=(jyK _).trans (jyK _);have r1:=World.ownsRow.kept hp1 g1 (hne _ (by omega));have g2:((w1.setCell ⟨w.heap.size,1,none⟩ (.int .i64 m')).setCell ⟨w.heap.size,2,none⟩ (.slice B1 n d1)).grownBy (((((w1.setCell ⟨w.heap.size,1,none⟩ (.int .i64 m')).setCell ⟨w.heap.size,2,none⟩ (.slice B1 n d1)).setCell ⟨w.heap.size+1,0,none⟩ (bs g)).setCell ⟨w.heap.size+1,1,none⟩ (.int .i64 m')).setCell ⟨w.heap.size+1,2,none⟩ (.slice B1 n d1)) (some (w.heap.size+1)):=((jyK _).trans (jyK _)).trans (jyK _);have r2:=World.ownsRow.kept r1 g2 (hne _ (by omega));obtain ⟨A6,c6,e6,hp6⟩:=jzi.pv r2 HL.o.1 HL.o.2;cases e6
 refine bodyPost_ret (v:= .agg #[bs g, .int .i64 m', .slice B1 n d1]) (by simp [results,results62,go_sem,hc1,hf1,z1_0,z1_1]) rfl ⟨_,_,rfl,hp6,bi⟩
end
end Go.Proofs.YtfagcpcikjlboaaGreatDoor
