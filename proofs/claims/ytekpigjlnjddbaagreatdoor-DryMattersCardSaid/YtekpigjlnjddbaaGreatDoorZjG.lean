/- Parts. -/
import Derived.Test.YtekpigjlnjddbaaGreatDoorNeG
set_option linter.all false
set_option maxRecDepth 100000
set_option maxHeartbeats 8000000
namespace Go.Proofs.YtekpigjlnjddbaaGreatDoor
open Go Go.RowKit

def jlD (ts:List (List UInt8)):Array Value:=(ts.map bs).toArray
theorem jmm {ts:List (List UInt8)} {j:Nat} (h:j < ts.length):(jlD ts)[j]? =some (bs (ts.getD j [])):=by
 simp [jlD,List.getD_eq_getElem?_getD,h]
theorem jpV (ts:List (List UInt8)) (i:Nat) (z:List UInt8):(jlD ts).setIfInBounds i (bs z)=jlD (ts.set i z):=by
 simp [jlD,List.map_set]
theorem jmW:(Tryz.prog.info? 22).map (fun i=>(i.zero,i.size,i.bytes))=some (some (.string ⟨#[]⟩),1,16):=by kernel_rfl
theorem jfB (l:Nat):madeCells #[Value.string ⟨#[]⟩] (l*1)=jlD (List.replicate l []):=by
 apply Array.ext
 ·simp [madeCells,jlD]
 ·intro i h1 h2;simp [madeCells,jlD,Nat.mod_one,bs]
theorem jlM (l:Nat) (hl:l < 1099511627776) (W:World):
  (Instr.makeSlice 23 (.int .i64 (l:Int)) (.int .i64 (l:Int))).run Tryz.prog W= .ok (.slice (some ⟨W.heap.size,0,none⟩) l l) (W.alloc (.cells (jlD (List.replicate l [])) 22)):=by
 obtain ⟨i0,hi,hz0,hz1,hz2⟩:=info_parts jmW;have hr:=run_make (P:=Tryz.prog) W 23 22 i0 (.string ⟨#[]⟩) Tryz.underlying23 hi hz0 .i64 .i64 (l:Int) (l:Int) (by omega) (by omega) (by rw [hz2];omega) (by omega);simp only [Int.toNat_natCast,hz1] at hr;rw [hr,show (Value.string ⟨#[]⟩).cells= #[Value.string ⟨#[]⟩] from rfl,jfB]
def jcl (f:Nat→List UInt8) (n i:Nat):List (List UInt8):=(List.range n).map fun j=>if j < i then f j else []
theorem jeR (f:Nat→List UInt8) (n i:Nat):(jcl f n i).length=n:=by simp [jcl]
theorem jlj (f:Nat→List UInt8) (n:Nat):jcl f n 0=List.replicate n []:=by
 apply List.ext_getElem
 ·simp [jcl]
 ·intro i h1 h2;simp [jcl]
theorem jmI (f:Nat→List UInt8) (n i:Nat):(jcl f n i).set i (f i)=jcl f n (i+1):=by
 apply List.ext_getElem
 ·simp [jcl]
 ·intro j h1 h2;rw [List.getElem_set];simp only [jcl,List.getElem_map,List.getElem_range];by_cases h:i=j
  ·subst h;simp
  ·rw [if_neg h];by_cases h3:j < i
   ·rw [if_pos h3,if_pos (by omega)]
   ·rw [if_neg h3,if_neg (by omega)]
theorem jpO {f:Nat→List UInt8} {n i j:Nat} (hj:j < n):(jcl f n i).getD j []=if j < i then f j else []:=by
 simp [jcl,List.getD_eq_getElem?_getD,hj]
theorem jnR {qs:List Rat} {n:Nat} (h:qs.length=n):jcl (fun j=>tq (qs.getD j 0)) n n=qs.map tq:=by
 apply List.ext_getElem
 ·simp [jcl,h]
 ·intro j h1 h2;simp only [jcl,List.getElem_map,List.getElem_range];rw [jeR] at h1;rw [if_pos h1,List.getD_eq_getElem?_getD,List.getElem?_eq_getElem (by omega)];rfl
section
variable {w:World} {A:Option Addr} {n c:Nat} {qs:List Rat}
theorem joO (hE:Env w) (h:Qv w A n qs) (hn:n≤1000) (hq:∀j,j < n→StrQ (qs.getD j 0)∧je3 (qs.getD j 0)=false):
  Calls Tryz.prog 49 #[.slice A n c] w fun e w'=>∃B,e= .returned (.slice B n n)∧Sv w' B n (qs.map tq)∧Below w.heap.size w w':=by
 have HE:=qh hE;have H:=qh h;have HN:=qh hn;have HQ:=qh hq;have hmk:=jlM n (by omega);clear hE h hn hq;go_enter Tryz.func49,Tryz.ntmps49;go_wp2;have hb0:=Blk.new w 22 (jlD (List.replicate n []));have bU:Below w.heap.size w (w.alloc (.cells (jlD (List.replicate n [])) 22)):=bi;obtain ⟨g,hg⟩:∃g,w.heap.size=g:=⟨_,rfl⟩;rw [hg] at hb0 ⊢;have HG:=qh hg
 go_loopw [11] (fun u wr=>∃(i:Nat),u= .int .i64 (i:Int)∧i≤n∧Below w.heap.size w wr∧Blk wr g 22 (jlD (jcl (fun j=>tq (qs.getD j 0)) n i))) (fun u _=>n - (intOf u).toNat)
 case atStart=>exact ⟨0,rfl,Nat.zero_le _,bU,by rw [jlj];exact hb0⟩
 case round=>
  obtain ⟨i,rfl,hin,hb,hlk⟩:=hrel;have _:=bm hb;clear hb0 bU;by_cases hi:i < n
  ·have q0:decide ((i:Int) < (n:Int))=true:=by simp;exact hi
   have q9:decide (i < n)=true:=by simpa using hi
   obtain ⟨b,o,rfl,hbl,hat⟩:=(H.out.below hb).at_ (by omega);obtain ⟨s,A',n',c',t,B',m',d',k0,k1,k2,k3,hr⟩:=(hat i hi).at_;obtain ⟨x,hx⟩:∃x,qs.getD i 0=x:=⟨_,rfl⟩;obtain ⟨hs,hl⟩:=HQ.out i hi;rw [hx] at hr hs hl;have HS:=qh hs;have HD:=qh (DigQ.of hl);have HR:=qh hr;have hER:=qh (HE.out.below hb);have z0:=hlk.cell i;rw [jmm (by rw [jeR];exact hi),jpO hi,if_neg (by omega)] at z0;have f0:=hlk.frozen i;have zg:=hlk.lt;have HB:=qh hlk;have HI:=qh (And.intro hi hx);clear hat hr hs hl hx hlk;go_wp2_with (go_at_call 37;(with_reducible refine mo0 (jgy (HR.out.below bi) (hER.out.below bi) HS.out HD.out) fun w1 hb1 hc1 hf1 _=> ?_))
   have hi:=HI.out.1;have hn:=HN.out;have bw:Below wr.heap.size wr w1:=bi;have hk:=((HB.out.below bw).set_ i (bs (tq x)))
   have e:(jcl (fun j=>tq (qs.getD j 0)) n i).set i (tq x)=jcl (fun j=>tq (qs.getD j 0)) n (i+1):=by
    rw [←HI.out.2];exact jmI (fun j=>tq (qs.getD j 0)) n i
   rw [jpV,e] at hk;rw [show wrap64 ((i:Int)+1)=((i+1:Nat):Int) by unfold wrap64;omega];exact ⟨⟨i+1,rfl,hi,bC (ja0 hb bw) (Nat.le_of_eq HG.out),hk⟩,by simp [intOf];omega⟩
  ·have q0:decide (i < n)=false:=by simp;omega
   obtain rfl:n=i:=by omega
   clear hi;go_wp2;go_ret;refine ⟨some ⟨g,0,none⟩,rfl,⟨by rw [List.length_map];exact H.out.len,fun h0=>⟨g,0,rfl,hlk.lt,fun j hj=> ?_⟩⟩,hb⟩;rw [Nat.zero_add,hlk.cell j,jmm (by rw [jeR];exact hj),jnR H.out.len]
end

theorem jp9:(Tryz.prog.info? 3).map (fun i=>(i.zero,i.size,i.bytes))=some (some (.int .i64 0),1,8):=by kernel_rfl
def ztl (zs:List Int):List Value:=zs.map (Value.int .i64)
structure OwnJ (w:World) (base:Nat) (v:Value) (n:Nat) (zs:List Int):Prop where
 row:w.ownsRow base 3 1 v n (ztl zs)
 nou:∀g,v.ownBlock=some g→NoU w g
theorem OwnJ.nil (w:World) (base:Nat):OwnJ w base (.slice none 0 0) 0 []:=⟨World.ownsRow_nil _ _ _ _,fun g h=>by cases h⟩
theorem OwnJ.kept {w w':World} {base n:Nat} {v:Value} {zs:List Int} {row:Option Nat} (h:OwnJ w base v n zs) (hg:w.grownBy w' row) (hne:∀g,v.ownBlock=some g→some g≠row):OwnJ w' base v n zs:=
 ⟨World.ownsRow.kept h.row hg (by cases e:v.ownBlock with|none=>exact .inl rfl|some g=>exact .inr (hne g e)),
   fun g e=>(h.nou g e).kept (hg.block g (World.ownsRow.lt h.row g e).2 (hne g e))⟩
theorem OwnJ.below {w w':World} {base n:Nat} {v:Value} {zs:List Int} (h:OwnJ w base v n zs) (hb:Below w.heap.size w w'):OwnJ w' base v n zs:=
 h.kept (jeZ hb) (fun g _ e=>by cases e)
theorem OwnJ.lt {w:World} {base n:Nat} {v:Value} {zs:List Int} (h:OwnJ w base v n zs):∀k,v.ownBlock=some k→base≤k∧k < w.heap.size:=World.ownsRow.lt h.row
theorem OwnJ.num {w:World} {base n:Nat} {v:Value} {zs:List Int} (h:OwnJ w base v n zs):zs.length=n:=by
 have:=h.row.1;unfold ztl at this;rw [List.length_map] at this;omega
theorem juj {w:World} {base n b c:Nat} {v:Value} {zs:List Int} {q:Int} (h:OwnJ w base v n zs) (hn:n≤100000) (hb:base≤w.heap.size) (h0:w.cell? ⟨b,0,none⟩=some (.int .i64 q)):
  ∃v' w',(Builtin.append_ #[26,26] 26 #[v, .slice (some ⟨b,0,none⟩) 1 c]).run Tryz.prog w= .ok v' w'∧OwnJ w' base v' (n+1) (zs++[q])∧w.grownBy w' v.ownBlock∧(v'.ownBlock=v.ownBlock∨v'.ownBlock=some w.heap.size):=by
 obtain ⟨i,hi,hz0,hz1,hz2⟩:=info_parts jp9
 have hnews:∀j u,(ztl [q])[j]? =some u→w.cell? ((⟨b,0,none⟩:Addr).add j)=some u:=by
  intro j u hu;rw [jk6]
  match j,hu with
  | 0,hu=>simp [ztl] at hu;subst hu;exact h0
  | j+1,hu=>simp [ztl] at hu
 have hone:∀u∈ztl [q],u.oneCell'=true:=by intro u hu;simp [ztl] at hu;subst hu;rfl
 obtain ⟨v',w',hr,k1,k2,_,k3⟩:=run_append_own_at (P:=Tryz.prog) w base 26 26 3 i _ 1 8 Tryz.underlying26 hi hz0 hz1 hz2 rfl (by decide) v n (ztl zs) h.row ⟨b,0,none⟩ 1 c (ztl [q]) (by simp [ztl]) hnews hone
  (by simp only [maxLen];omega) (by omega) hb
 have hzc:∀k,∀u∈(Builtin.zeroCells (Value.int .i64 0).cells k).toList,∀z,u≠ .int .u64 z:=by
  intro k u hu z;simp [Builtin.zeroCells,Value.cells] at hu;obtain ⟨i,_,rfl⟩:=hu;rw [Nat.mod_one];simp
 have hns:∀u∈ztl [q],∀z,u≠ .int .u64 z:=by
  intro u hu z;simp [ztl] at hu;subst hu;simp
 have hnou:∀g,v'.ownBlock=some g→NoU w' g:=by
  rcases h.row.2 with ⟨rfl,rfl⟩|⟨g,cap,cur,rfl,hbg,hg,hnc,hcm,hcs,htake⟩
  ·have hr2:=run_append_nil (P:=Tryz.prog) w 26 26 3 i _ Tryz.underlying26 hi hz0 ⟨b,0,none⟩ 1 c (ztl [q]) (by simp [ztl,hz1]) hnews (by omega) (by omega) (by rw [hz2];omega);rw [hr] at hr2;obtain ⟨rfl,rfl⟩:=Result.ok.inj hr2;intro g hg;simp [Value.ownBlock] at hg;subst hg;refine jgw fun u hu z=> ?_
   simp only [Array.toList_append,List.mem_append] at hu;rcases hu with hu|hu
   ·exact hns u hu z
   ·exact hzc _ u hu z
  ·have hcn:∀u∈cur.toList,∀z,u≠ .int .u64 z:=by
    obtain ⟨cur',t',f',e1,e2⟩:=h.nou g rfl;rw [hg] at e1;cases e1
    exact e2
   by_cases hroom:n+1≤cap
   ·have hr2:=run_append_room (P:=Tryz.prog) w 26 26 3 i Tryz.underlying26 hi g n cap cur hg ⟨b,0,none⟩ 1 c (ztl [q]) (by simp [ztl,hz1]) hnews hone hroom (by rw [hz1,hcs];simp [ztl];omega);rw [hr] at hr2;obtain ⟨rfl,rfl⟩:=Result.ok.inj hr2;intro k hk;simp [Value.ownBlock] at hk;subst hk;refine ⟨_,_,_,setRow_heap w g cur _ _ _ hg,fun u hu z=> ?_⟩;simp only [List.mem_append] at hu;rcases hu with (hu|hu)|hu
    ·exact hcn u (List.mem_of_mem_take hu) z
    ·exact hns u hu z
    ·exact hcn u (List.mem_of_mem_drop hu) z
   ·have holds:∀j u,(ztl zs)[j]? =some u→w.cell? ((⟨g,0,none⟩:Addr).add j)=some u:=h.row.cells (g:=g) rfl;have hr2:=run_append_grow (P:=Tryz.prog) w 26 26 3 i _ Tryz.underlying26 hi hz0 ⟨g,0,none⟩ n cap (ztl zs) (by rw [hz1];exact h.row.1) holds ⟨b,0,none⟩ 1 c (ztl [q]) (by simp [ztl,hz1]) hnews (by omega) (by omega) (growslice_fits (by omega) (by rw [hz2];omega));rw [hr] at hr2;obtain ⟨rfl,rfl⟩:=Result.ok.inj hr2;intro k hk;simp [Value.ownBlock] at hk;subst hk;refine jgw fun u hu z=> ?_
    simp only [Array.toList_append,List.mem_append] at hu;rcases hu with (hu|hu)|hu
    ·refine hcn u ?_ z;have hu':u∈ztl zs:=hu;rw [←htake] at hu';exact List.mem_of_mem_take hu'
    ·exact hns u hu z
    ·exact hzc _ u hu z
 exact ⟨v',w',hr,⟨by unfold ztl at*;rw [List.map_append];exact k1,hnou⟩,k2,k3⟩
theorem jdN {o:Oper} {a:Act} {K:Act→World→Prop} {Q:Exit→Act→World→Prop} {w:World} {base n b c:Nat} {v:Value} {zs:List Int} {q:Int} (s y:Operand)
  (ho:o.op= .call { callee:= .builtin .append,args:= #[s,y],argTypes:= #[26,26] }) (ht:o.type=26) (hs:a.eval s=v) (hy:a.eval y= .slice (some ⟨b,0,none⟩) 1 c)
  (h:OwnJ w base v n zs) (hn:n≤100000) (hb:base≤w.heap.size) (h0:w.cell? ⟨b,0,none⟩=some (.int .i64 q))
  (hK:∀v' w',OwnJ w' base v' (n+1) (zs++[q])→w.grownBy w' v.ownBlock→(v'.ownBlock=v.ownBlock∨v'.ownBlock=some w.heap.size)→K (a.put o.dst v') w'):o.wp Tryz.prog a w K Q:=by
 obtain ⟨v',w',hr,k1,k2,k3⟩:=juj h hn hb h0;exact jdG s y ho hs hy (by rw [ht];exact hr) (hK v' w' k1 k2 k3)
end Go.Proofs.YtekpigjlnjddbaaGreatDoor
