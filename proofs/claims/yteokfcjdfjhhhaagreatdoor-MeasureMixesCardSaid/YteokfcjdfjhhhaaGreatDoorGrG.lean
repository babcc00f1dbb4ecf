/- Parts. -/
import Derived.Test.YteokfcjdfjhhhaaGreatDoorGnG
import Derived.Sort.Walk0
set_option linter.all false
set_option maxRecDepth 100000
set_option maxHeartbeats 8000000
namespace Go.Proofs.YteokfcjdfjhhhaaGreatDoor
open Go Go.RowKit

noncomputable def lots (ks:List (List UInt8)) (cs:List (List UInt8×Rat)):List (List UInt8×List UInt8):=ks.map (fun x=>(x,tq (tot cs x)))
section
variable {ks:List (List UInt8)} {cs:List (List UInt8×Rat)} {y:List UInt8} {r:Rat} {i:Nat}
theorem jhf {x:List UInt8} (h:x≠y):tot (cs++[(y,r)]) x=tot cs x:=by
 rw [jdw,if_neg (fun e=>h e.symm),Rat.zero_add]
theorem jjO:tot (cs++[(y,r)]) y=tot cs y+r:=by
 rw [jdw,if_pos rfl,Rat.add_comm]
theorem jfz (h:y ∉ ks):lots ks (cs++[(y,r)])=lots ks cs:=by
 unfold lots;apply List.map_congr_left;intro x hx;have hn:x≠y:=fun e=>h (by rw [←e];exact hx)
 rw [jhf hn]
theorem jgy (h:y ∉ ks) (hc:jbF cs y=false):lots (ks.take i++y::ks.drop i) (cs++[(y,r)])=(lots ks cs).take i++(y,tq r)::(lots ks cs).drop i:=by
 have h1:y ∉ ks.take i:=fun e=>h (List.mem_of_mem_take e)
 have h2:y ∉ ks.drop i:=fun e=>h (List.mem_of_mem_drop e)
 have e1:=jfz (cs:=cs) (r:=r) h1;have e2:=jfz (cs:=cs) (r:=r) h2;unfold lots at e1 e2 ⊢;rw [List.map_append,List.map_cons,e1,e2,jjO,jei hc,Rat.zero_add,List.map_take,List.map_drop]
theorem jpA {x:List UInt8}:x∈ks.take i++y::ks.drop i↔x∈ks∨x=y:=by
 have:x∈ks↔x∈ks.take i∨x∈ks.drop i:=by
  conv=>lhs;rw [←List.take_append_drop i ks]
  exact List.mem_append
 rw [List.mem_append,List.mem_cons,this];constructor
 ·rintro (h|h|h)
  ·exact .inl (.inl h)
  ·exact .inr h
  ·exact .inl (.inr h)
 ·rintro ((h|h)|h)
  ·exact .inl h
  ·exact .inr (.inr h)
  ·exact .inr (.inl h)
theorem jhQ (hm:∀x,x∈ks↔jbF cs x=true):∀x,x∈ks.take i++y::ks.drop i↔jbF (cs++[(y,r)]) x=true:=fun x=>by
 rw [jpA,hm,jdt,Bool.or_eq_true,beq_iff_eq];exact ⟨fun h=>h.imp id Eq.symm,fun h=>h.imp id Eq.symm⟩
theorem jiu (ho:Ordered ks) (h1:∀x∈ks.take i,x < y) (h2:∀x∈ks.drop i,y < x):Ordered (ks.take i++y::ks.drop i):=by
 have hn:=ho.nodup;have hl:=ho.le;rw [←List.take_append_drop i ks] at hn hl;obtain ⟨n1,n2,n3⟩:=List.nodup_append.1 hn;obtain ⟨l1,l2,l3⟩:=List.pairwise_append.1 hl;refine ⟨List.nodup_append.2 ⟨n1,List.nodup_cons.2 ⟨fun h=>List.lt_irrefl _ (h2 y h),n2⟩,fun a ha b hb e=> ?_⟩,List.pairwise_append.2 ⟨l1,List.pairwise_cons.2 ⟨fun b hb=>List.le_of_lt (h2 b hb),l2⟩,fun a ha b hb=> ?_⟩⟩
 ·subst e;rcases List.mem_cons.1 hb with rfl|hb
  ·exact List.lt_irrefl _ (h1 a ha)
  ·exact n3 a ha a hb rfl
 ·rcases List.mem_cons.1 hb with rfl|hb
  ·exact List.le_of_lt (h1 a ha)
  ·exact l3 a ha b hb
theorem jqD (ho:Ordered ks) (hi:i < ks.length) (h:y < ks.getD i []):∀x∈ks.drop i,y < x:=by
 have hl:=ho.le;rw [←List.take_append_drop i ks] at hl;have l2:=(List.pairwise_append.1 hl).2.1;intro x hx;rw [List.drop_eq_getElem_cons hi] at l2 hx;have e:ks.getD i []=ks[i]:=by rw [List.getD_eq_getElem?_getD,List.getElem?_eq_getElem hi];rfl
 rw [e] at h;rcases List.mem_cons.1 hx with rfl|hx
 ·exact h
 ·exact Classical.byContradiction fun hc=>(List.not_le.2 h) (List.le_trans ((List.pairwise_cons.1 l2).1 x hx) (List.not_lt.1 hc))
theorem jlk (h:∀j,j < i→ks.getD j [] < y) (hi:i≤ks.length):∀x∈ks.take i,x < y:=by
 intro x hx;obtain ⟨j,hj,e⟩:=List.mem_iff_getElem.1 hx;have hj2:j < i:=by rw [List.length_take] at hj;omega
 have hj3:j < ks.length:=by omega
 have:=h j hj2;rw [List.getD_eq_getElem?_getD,List.getElem?_eq_getElem hj3] at this;rw [List.getElem_take] at e;rw [←e];exact this
theorem jic (h1:∀x∈ks.take i,x < y) (h2:∀x∈ks.drop i,y < x):y ∉ ks:=fun h=>by
 rw [←List.take_append_drop i ks,List.mem_append] at h;rcases h with h|h
 ·exact List.lt_irrefl _ (h1 y h)
 ·exact List.lt_irrefl _ (h2 y h)
theorem jbM:(lots ks cs).length=ks.length:=by simp [lots]
theorem jdn (hi:i < ks.length):(lots ks cs).getD i ([],[])=(ks.getD i [],tq (tot cs (ks.getD i []))):=by
 unfold lots;rw [List.getD_eq_getElem?_getD,List.getElem?_map,List.getD_eq_getElem?_getD,List.getElem?_eq_getElem hi];rfl
theorem jjQ {j:Nat} (h:j < (lots ks cs).length) (h1:j < ks.length):(lots ks cs)[j]=(ks[j],tq (tot cs ks[j])):=by
 simp only [lots,List.getElem_map]
theorem jkC (ho:Ordered ks) (hi:i < ks.length) (h:ks.getD i []=y):lots ks (cs++[(y,r)])=(lots ks cs).set i (y,tq (tot cs y+r)):=by
 have e:ks.getD i []=ks[i]:=by rw [List.getD_eq_getElem?_getD,List.getElem?_eq_getElem hi];rfl
 have hy:ks[i]=y:=by rw [←e];exact h
 apply List.ext_getElem
 ·rw [List.length_set,jbM,jbM]
 ·intro j h1 h2;rw [jbM] at h1;rw [List.getElem_set,jjQ _ h1];by_cases hj:i=j
  ·subst hj;rw [if_pos rfl,hy,jjO]
  ·rw [if_neg hj,jjQ _ h1];have hne:ks[j]≠y:=fun e2=>hj ((List.getElem_inj ho.nodup).1 (hy.trans e2.symm))
   rw [jhf hne]
end

theorem jlg (a:List (List UInt8×List UInt8)):(shs a).length=a.length*2:=by
 induction a with
 | nil=>rfl
 | cons q r ih=>rw [show shs (q::r)=shs [q]++shs r from jbV [q] r,List.length_append,ih];simp [shs];omega
theorem jqQ {a:List (List UInt8×List UInt8)}:∀u∈shs a,u.oneCell'=true:=by
 intro u hu;simp only [shs,List.mem_flatMap] at hu;obtain ⟨p,_,hp⟩:=hu;simp at hp;rcases hp with rfl|rfl <;> rfl
theorem jjl {w:World} {base n m b o c:Nat} {v:Value} {ps qs:List (List UInt8×List UInt8)} (h:jc0 w base v n ps) (hn:n≤100000) (hm:m≤100000) (hb:base≤w.heap.size) (hq:qs.length=m)
  (hc:∀j,j < m→w.cell? ⟨b,o+j*2,none⟩=some (bs (qs.getD j ([],[])).1)∧w.cell? ⟨b,o+j*2+1,none⟩=some (bs (qs.getD j ([],[])).2)):
  ∃v' w',(Builtin.append_ #[27,27] 27 #[v, .slice (some ⟨b,o,none⟩) m c]).run Tryz.prog w= .ok v' w'∧jc0 w' base v' (n+m) (ps++qs)∧w.grownBy w' v.ownBlock∧(v'.ownBlock=v.ownBlock∨v'.ownBlock=some w.heap.size):=by
 obtain ⟨i,hi,hz0,hz1,hz2⟩:=info_parts jeO
 obtain ⟨v',w',hr,k1,k2,_,k3⟩:=run_append_own_at (P:=Tryz.prog) w base 27 27 42 i _ 2 32 Tryz.underlying27 hi hz0 hz1 hz2 rfl (by decide) v n (shs ps) h ⟨b,o,none⟩ m c (shs qs) (by rw [jlg,hq])
  (by
    intro j u hu
    have hj:j < m*2:=by
     have:=(List.getElem?_eq_some_iff.1 hu).1;rw [jlg,hq] at this;exact this
    have e:(⟨b,o,none⟩:Addr).add j=⟨b,o+j,none⟩:=by unfold Addr.add;split <;> simp_all
    rw [e];have hs:=jjx qs (j / 2) (j % 2) (by omega) (by omega);rw [show j / 2*2+j % 2=j by omega,hu] at hs;obtain ⟨k0,k1⟩:=hc (j / 2) (by omega);rcases Nat.mod_two_eq_zero_or_one j with hz|hz
    ·rw [hz] at hs;simp [shs] at hs;rw [show o+j=o+j / 2*2 by omega,k0,hs];simp
    ·rw [hz] at hs;simp [shs] at hs;rw [show o+j=o+j / 2*2+1 by omega,k1,hs]
     simp)
  jqQ
  (by simp only [maxLen];omega) (by omega) hb
 exact ⟨v',w',hr,by rw [jc0,jbV];exact k1,k2,k3⟩
theorem Pv.cells_take {w:World} {b o n i:Nat} {ls:List (List UInt8×List UInt8)} (h:Pv w (some ⟨b,o,none⟩) n ls) (hi:i≤n):
  (ls.take i).length=i∧∀j,j < i→w.cell? ⟨b,o+j*2,none⟩=some (bs ((ls.take i).getD j ([],[])).1)∧w.cell? ⟨b,o+j*2+1,none⟩=some (bs ((ls.take i).getD j ([],[])).2):=by
 have hl:=h.len;refine ⟨by rw [List.length_take];omega,fun j hj=> ?_⟩;obtain ⟨b',o',e,_,hc⟩:=h.at_ (by omega);cases e
 have:=hc j (by omega);rw [List.getD_eq_getElem?_getD,List.getElem?_take,if_pos hj,←List.getD_eq_getElem?_getD];exact this
theorem Pv.cells_drop {w:World} {b o n i:Nat} {ls:List (List UInt8×List UInt8)} (h:Pv w (some ⟨b,o,none⟩) n ls) (hi:i≤n):
  (ls.drop i).length=n - i∧∀j,j < n - i→w.cell? ⟨b,o+i*2+j*2,none⟩=some (bs ((ls.drop i).getD j ([],[])).1)∧w.cell? ⟨b,o+i*2+j*2+1,none⟩=some (bs ((ls.drop i).getD j ([],[])).2):=by
 have hl:=h.len;refine ⟨by rw [List.length_drop];omega,fun j hj=> ?_⟩;obtain ⟨b',o',e,_,hc⟩:=h.at_ (by omega);cases e
 have:=hc (i+j) (by omega);rw [List.getD_eq_getElem?_getD,List.getElem?_drop,←List.getD_eq_getElem?_getD];rw [show o+i*2+j*2=o+(i+j)*2 by omega];exact this
end Go.Proofs.YteokfcjdfjhhhaaGreatDoor
namespace Go.Proofs.YteokfcjdfjhhhaaGreatDoor
open Go Go.RowKit Go.Sort

theorem jpK {ks:List (List UInt8)} {y:List UInt8} {i:Nat} (ho:Ordered ks) (hi:i < ks.length) (h1:¬ks.getD i [] < y) (h2:ks.getD i []≠y):y < ks.getD i []:=by
 rcases List.le_total y (ks.getD i []) with h|h
 ·exact Classical.byContradiction fun hc=>h2 (List.le_antisymm (List.not_lt.1 hc) h)
 ·exact absurd h (fun h=>h1 (Classical.byContradiction fun hc=>h2 (List.le_antisymm h (List.not_lt.1 hc))))
theorem jaD (w:World):jc0 (w.alloc (.cells #[] 42)) w.heap.size (.slice (some ⟨w.heap.size,0,none⟩) 0 0) 0 []:=World.ownsRow_made w #[] 0 (Nat.le_refl _) (Nat.zero_le _) rfl
abbrev Put (w:World) (cs:List (List UInt8×Rat)) (e:Ending) (w':World):Prop:=∃A' c' ks',e= .returned (.slice A' ks'.length c')∧jc0 w' w.heap.size (.slice A' ks'.length c') ks'.length (lots ks' cs)∧Ordered ks'∧(∀x,x∈ks'↔jbF cs x=true)∧Below w.heap.size w w'
theorem jeL {ks:List (List UInt8)} {cs:List (List UInt8×Rat)} {y:List UInt8} {r:Rat} {i n:Nat} (ho:Ordered ks) (hm:∀x,x∈ks↔jbF cs x=true) (h1:∀x∈ks.take i,x < y) (h2:∀x∈ks.drop i,y < x) (hn:ks.length=n):
  y ∉ ks∧jbF cs y=false∧(ks.take i++y::ks.drop i).length=n+1∧Ordered (ks.take i++y::ks.drop i):=by
 have h:=jic h1 h2;refine ⟨h, ?_, ?_,jiu ho h1 h2⟩
 ·rw [←Bool.not_eq_true,←hm];exact h
 ·rw [List.length_append,List.length_cons,List.length_take,List.length_drop];omega
theorem jnm {y:List UInt8} {r:Rat}:lots [y] [(y,r)]=[(y,tq r)]:=by
 have:=jgy (ks:=[]) (cs:=[]) (y:=y) (r:=r) (i:=0) (by simp) (by simp [jbF]);simpa [lots] using this
theorem jdz {ops:Array Oper} {rest:List Oper} {o:Oper} {a:Act} {Q:Exit→Act→World→Prop} {w:World} {base n m N b d c:Nat} {v:Value} {ps qs:List (List UInt8×List UInt8)} (hg:o.guard=none) (s y:Operand)
  (ho:o.op= .call { callee:= .builtin .append,args:= #[s,y],argTypes:= #[27,27] }) (ht:o.type=27) (hs:a.eval s=v) (hy:a.eval y= .slice (some ⟨b,d,none⟩) m c)
  (h:jc0 w base v n ps) (hn:n≤100000) (hm:m≤100000) (hN:n+m=N) (hb:base≤w.heap.size) (hq:qs.length=m)
  (hc:∀j,j < m→w.cell? ⟨b,d+j*2,none⟩=some (bs (qs.getD j ([],[])).1)∧w.cell? ⟨b,d+j*2+1,none⟩=some (bs (qs.getD j ([],[])).2))
  (hK:∀A' c' w',jc0 w' base (.slice A' N c') N (ps++qs)→w.grownBy w' v.ownBlock→((Value.slice A' N c').ownBlock=v.ownBlock∨(Value.slice A' N c').ownBlock=some w.heap.size)→wpList Tryz.prog ops Q rest (a.put o.dst (.slice A' N c')) w'):wpList Tryz.prog ops Q (o::rest) a w:=by
 subst hN;obtain ⟨v',w',hr,k1,k2,k3⟩:=jjl h hn hm hb hq hc;obtain ⟨A',c',rfl⟩:=k1.slice;refine wpList_plain hg fun K' hK'=> ?_
 exact jdZ s y ho hs hy (by rw [ht];exact hr) (hK' _ _ (hK A' c' w' k1 k2 k3))
theorem jmF:∀{ps:List (List UInt8×List UInt8)} {i:Nat} {t:List UInt8},(shs ps).set (i*2+1) (bs t)=shs (ps.set i ((ps.getD i ([],[])).1,t))
 | [],i,t=>by simp [shs]
 | p::r,0,t=>by simp [shs]
 | p::r,i+1,t=>by
   have h:=jmF (ps:=r) (i:=i) (t:=t);rw [show (i+1)*2+1=(i*2+1)+1+1 by omega];simp only [shs,List.flatMap_cons,List.cons_append,List.nil_append,List.set_cons_succ,List.getD_cons_succ] at h ⊢;rw [h]
theorem jc0.put {w:World} {base g n c i:Nat} {ps:List (List UInt8×List UInt8)} {t:List UInt8} (h:jc0 w base (.slice (some ⟨g,0,none⟩) n c) n ps):
  jc0 (w.setCell ⟨g,i*2+1,none⟩ (bs t)) base (.slice (some ⟨g,0,none⟩) n c) n (ps.set i ((ps.getD i ([],[])).1,t))∧w.grownBy (w.setCell ⟨g,i*2+1,none⟩ (bs t)) (some g):=by
 have:=World.ownsRow.stored h (i*2+1) (bs t);rw [jmF] at this;exact this
theorem jbh (w:World) (x:Obj):jc0 ((w.alloc x).alloc (.cells #[] 42)) w.heap.size (.slice (some ⟨w.heap.size+1,0,none⟩) 0 0) 0 []:=by
 have:=jaD (w.alloc x);rw [World.size_alloc] at this;exact ⟨this.1,this.2.imp id fun ⟨g,cap,cur,e,h1,r⟩=>⟨g,cap,cur,e,by omega,r⟩⟩
theorem jfU {n:Nat} {r:Option Nat} (h:r=some (n+1)):some n≠r:=by rw [h];simp
theorem jgm {n:Nat} {r:Option Nat} (h:r=some n):some (n+1)≠r:=by rw [h];simp
theorem jdy {w:World} {base b' n:Nat} {v:Value} {ps:List (List UInt8×List UInt8)} (h:jc0 w base v n ps) (hb:b'≤base):jc0 w b' v n ps:=
 ⟨h.1,h.2.imp id fun ⟨g,cap,cur,e,h1,r⟩=>⟨g,cap,cur,e,Nat.le_trans hb h1,r⟩⟩
theorem jb6 {o:Oper} {a:Act} {K:Act→World→Prop} {Q:Exit→Act→World→Prop} {w:World} {base n m N b d c:Nat} {v:Value} {ps qs:List (List UInt8×List UInt8)} (s y:Operand)
  (ho:o.op= .call { callee:= .builtin .append,args:= #[s,y],argTypes:= #[27,27] }) (ht:o.type=27) (hs:a.eval s=v) (hy:a.eval y= .slice (some ⟨b,d,none⟩) m c)
  (h:jc0 w base v n ps) (hn:n≤100000) (hm:m≤100000) (hN:n+m=N) (hb:base≤w.heap.size) (hq:qs.length=m)
  (hc:∀j,j < m→w.cell? ⟨b,d+j*2,none⟩=some (bs (qs.getD j ([],[])).1)∧w.cell? ⟨b,d+j*2+1,none⟩=some (bs (qs.getD j ([],[])).2))
  (hK:∀A' c' w',jc0 w' base (.slice A' N c') N (ps++qs)→w.grownBy w' v.ownBlock→((Value.slice A' N c').ownBlock=v.ownBlock∨(Value.slice A' N c').ownBlock=some w.heap.size)→K (a.put o.dst (.slice A' N c')) w'):o.wp Tryz.prog a w K Q:=by
 subst hN;obtain ⟨v',w',hr,k1,k2,k3⟩:=jjl h hn hm hb hq hc;obtain ⟨A',c',rfl⟩:=k1.slice;exact jdZ s y ho hs hy (by rw [ht];exact hr) (hK A' c' w' k1 k2 k3)
theorem jec {o:Oper} {a:Act} {K:Act→World→Prop} {Q:Exit→Act→World→Prop} {w:World} {base n:Nat} {v:Value} {ps:List (List UInt8×List UInt8)} (s y:Operand)
  (ho:o.op= .call { callee:= .builtin .append,args:= #[s,y],argTypes:= #[27,27] }) (ht:o.type=27) (hs:a.eval s=v) (hy:a.eval y= .slice none 0 0)
  (h:jc0 w base v n ps) (hK:K (a.put o.dst v) w):o.wp Tryz.prog a w K Q:=by
 obtain ⟨i,hi,_,_,_⟩:=info_parts jeO;exact jdZ s y ho hs hy (run_append_owned_none (P:=Tryz.prog) (w:=w) base 27 o.type 42 i 2 Tryz.underlying27 hi v n (shs ps) h) hK
theorem jc0.full {w:World} {base n:Nat} {A:Option Addr} {c:Nat} {ps:List (List UInt8×List UInt8)} (h:jc0 w base (.slice A n c) n ps) (h0:0 < n):∃g,A=some ⟨g,0,none⟩∧n≤c∧base≤g:=by
 rcases h.2 with ⟨h1,h2⟩|⟨g,cap,cur,e,hb,hg,hnc,hcm,hcs,ht⟩
 ·omega
 ·cases e;exact ⟨g,rfl,hnc,hb⟩
section
variable {w:World} {A:Option Addr} {c k m:Nat} {ks:List (List UInt8)} {cs:List (List UInt8×Rat)} {y:List UInt8} {r:Rat}
theorem jsh (h0:0 < ks.length) (hv:Pv w A ks.length (lots ks cs)) (hc:ks.length≤c) (hn:ks.length≤10000) (ho:Ordered ks) (hm:∀x,x∈ks↔jbF cs x=true)
  (hx:Dz k (tot cs y)) (hr:Dz m r) (hk:0 < k) (hm0:0 < m) (hk2:k≤9000) (hm2:m≤9000):
  Calls Tryz.prog 51 #[.slice A ks.length c,bs y,bs (tq r)] w (Put w (cs++[(y,r)])):=by
 have H:=qh hv;have H0:=qh h0;have HN:=qh (And.intro hc hn);have HO:=qh ho;have HM:=qh hm;have HADD:=qh (fun W=>jpj (w:=W) hx hr hk hm0 hk2 hm2);obtain ⟨R,hR⟩:∃R,tq r=R:=⟨_,rfl⟩;rw [hR] at HADD ⊢;have HRR:=qh hR;clear hv h0 hc hn ho hm hx hr hk hm0 hk2 hm2 hR;obtain ⟨n,hnn⟩:∃n,ks.length=n:=⟨_,rfl⟩;have HL:=qh hnn;rw [hnn] at H HN H0 ⊢;clear hnn;go_enter Tryz.func51,Tryz.ntmps51;go_wp2
 go_loopw [7] (fun u wr=>∃(i:Nat),u= .int .i64 (i:Int)∧i≤n∧Below w.heap.size w wr∧∀j,j < i→ks.getD j [] < y) (fun u _=>n - (intOf u).toNat)
 case atStart=>exact ⟨0,rfl,Nat.zero_le _,bi,fun j h=>absurd h (Nat.not_lt_zero j)⟩
 case round=>
  obtain ⟨i,rfl,hin,hb,hlt⟩:=hrel;have _:=bm hb;have HLT:=qh hlt;clear hlt;by_cases hi:i < n
  ·have p0:decide (i < n)=true:=by simpa using hi
   have HI:=qh hi;have hnn:=HN.out;obtain ⟨b,o,rfl,hbl,hat⟩:=(H.out.below hb).at_ (by omega);obtain ⟨k0,k1⟩:=hat i hi;have hg:=jdn (ks:=ks) (cs:=cs) (i:=i) (by rw [HL.out];exact hi);rw [hg] at k0 k1;dsimp only at k0 k1;obtain ⟨x,hx⟩:∃x,ks.getD i []=x:=⟨_,rfl⟩;rw [hx] at k0 k1;have HX:=qh hx;clear hat hg hx;by_cases h1:x < y
   ·have q1:Op.bytesLess x y=true:=by rw [bytesLess_eq];simpa using h1
    have H1:Hid (∀j,j < i+1→ks.getD j [] < y):=qh (fun j hj=>by
     rcases Nat.lt_or_ge j i with h|h
     ·exact HLT.out j h
     ·obtain rfl:j=i:=by omega
      rw [HX.out];exact h1)
    clear h1 hi;go_wp2;exact ⟨⟨i+1,by simp,HI.out,bi,H1.out⟩,by have:=HI.out;simp [intOf];omega⟩
   ·have q1:Op.bytesLess x y=false:=by rw [bytesLess_eq];simpa using h1
    by_cases h2:x=y
    ·subst h2;have q2:(x==x)=true:=by simp
     clear h1 hi;have HV:=H.out.below hb
     go_wp2_with (first
      | (at_builtin;refine jdz (n:=0) (N:=n) (ps:=[]) (qs:=lots ks cs) rfl _ _ rfl rfl rfl rfl (jaD wr) (by omega) (by omega) (by omega) (by simp) (by rw [jbM];exact HL.out) (fun j hj=>by obtain ⟨b1,o1,e1, -,h1⟩:=(HV.below (ja4 (Below.refl _ _) _)).at_ (by omega);cases e1;exact h1 j hj) ?_;intro A5 c5 w5 ho5 hg5 hl5;replace hg5:(wr.alloc (.cells #[] 42)).grownBy w5 (some wr.heap.size):=hg5;clear hl5;obtain ⟨g,rfl,hcc,hge⟩:=ho5.full (by have:=HI.out;omega);obtain ⟨A6,c6,e6,hpv⟩:=ho5.pv (by rw [List.nil_append,jbM];exact HL.out) (by have:=HI.out;omega);cases e6;obtain ⟨b6,o6,e6,hz6,hc6⟩:=hpv.at_ (by have:=HI.out;omega);cases e6;have k6:=(hc6 i HI.out).2;rw [List.nil_append,jdn (by rw [HL.out];exact HI.out),Nat.zero_add,HX.out] at k6;dsimp only at k6;have f6:=World.ownsRow.frozenAt ho5;have HO5:=qh ho5;clear hc6 hpv ho5)
      | (go_at_call 38;(with_reducible refine mo0 (HADD.out _) fun w7 hb7 hc7 hf7 _=> ?_)))
     have hle:=hb.size;have hB5:Below w.heap.size w w5:=Below.trans (ja4 hb _) (ja8 hg5 (by rw [World.size_alloc];omega) (fun j hj=>by cases hj;exact hle));have hB7:=ja1 hB5 hb7;obtain ⟨p1,p2⟩:=jc0.put (i:=i) (t:=tq (tot cs x+r)) (HO5.out.below hb7);have hB8:=Below.trans hB7 (ja8 p2 hB7.size (fun j hj=>by cases hj;omega));rw [List.nil_append,jdn (by rw [HL.out];exact HI.out),HX.out,←jkC HO.out (by rw [HL.out];exact HI.out) HX.out] at p1;have hmem:x∈ks:=by rw [←HX.out];exact jbu (by rw [HL.out];exact HI.out)
     go_ret
     exact ⟨_,_,ks,by rw [HL.out];rfl,by rw [HL.out];exact jdy p1 hle,HO.out,fun z=>by
      rw [jdt,Bool.or_eq_true,beq_iff_eq,←HM.out]
      exact ⟨.inl,fun h=>h.elim id (fun e=>e ▸ hmem)⟩,hB8⟩
    ·have q2:(x==y)=false:=by simpa using h2
     have HY:Hid (y < x):=qh (by
      have:=jpK HO.out (y:=y) (i:=i) (by rw [HL.out];exact HI.out) (by rw [HX.out];exact h1) (by rw [HX.out];exact h2)
      rwa [HX.out] at this)
     clear h1 hi h2;have HTK:=qh (fun W (hW:Below wr.heap.size wr W)=>((H.out.below hb).below hW).cells_take (Nat.le_of_lt HI.out));have hic:i≤c:=by have:=HI.out;omega
     obtain ⟨q,hq⟩:∃q,(if c=i then some (⟨b,o,none⟩:Addr) else some ⟨b,o+i*2,none⟩)=some ⟨b,q,none⟩:=by split;exact ⟨_,rfl⟩;exact ⟨_,rfl⟩
     have HDR:=qh (fun W (hW:Below wr.heap.size wr W)=>by
      have:=((H.out.below hb).below hW).cells_drop (Nat.le_of_lt HI.out);rw [show o+i*2=q by have:=HI.out;rw [if_neg (by omega)] at hq;simpa using hq] at this
      exact this)
     have HNM:=qh (jeL (r:=r) HO.out HM.out (jlk HLT.out (by rw [HL.out];omega)) (jqD HO.out (by rw [HL.out];exact HI.out) (by rw [HX.out];exact HY.out)) HL.out);go_upto_region 8 with (fail)
     refine ja3 (fun w'=>Below wr.heap.size wr w') [] (by kernel_rfl) ?_;refine tb 1 (.slice (some ⟨b,o,none⟩) n c) [] rfl (by kernel_rfl) pk rfl (by intros;go_simp) bq0 ?_;refine tb 2 (.int .i64 (i:Int)) [] rfl (by kernel_rfl) pk rfl (by intros;go_simp) bq0 ?_;refine tb 3 (.slice (some ⟨b,o,none⟩) i c) [] rfl (by kernel_rfl) pk rfl (by intros;go_simp) bq0 ?_;refine tb 5 (bs y) [] rfl (by kernel_rfl) pk rfl (by intros;go_simp) bq0 ?_;refine tb 6 (bs R) [] rfl (by kernel_rfl) pk rfl (by intros;go_simp) bq0 ?_;refine tb 7 (.agg #[bs y,bs R]) [] rfl (by kernel_rfl) pk rfl (by intros;go_simp) bq0 ?_;refine tb 10 (.slice (some ⟨b,o,none⟩) n c) [] rfl (by kernel_rfl) pk rfl (by intros;go_simp) bq0 ?_;refine tb 11 (.int .i64 (i:Int)) [] rfl (by kernel_rfl) pk rfl (by intros;go_simp) bq0 ?_;refine tb 12 (.slice (some ⟨b,q,none⟩) (n - i) (c - i)) [] rfl (by kernel_rfl) pk rfl (by intros;go_simp) bq0 ?_;simp only [ppq];have hW:=Below.refl wr.heap.size wr;refine ja0 (rs:=[0,8]) (by kernel_rfl) (by simp) (AllT.cons rfl (fun K hK=> ?o1) (AllT.cons rfl (fun K hK=> ?o2) AllT.nil))
     case' o1=>
      go_simp;refine hK.out _ _ (fun _=>bi) ?_;clear hK K;refine ja0 (rs:=[4,8]) (by kernel_rfl) (by simp) (AllT.cons rfl (fun K hK=> ?o3) (AllT.cons rfl (fun K hK=> ?o4) AllT.nil))
      case' o3=>
       rw [if_pos (by rfl)];refine jb6 (base:=wr.heap.size) (n:=0) (N:=i) (ps:=[]) (qs:=(lots ks cs).take i) _ _ rfl rfl rfl rfl (by first|exact (jaD wr).drew|exact ((jaD wr).alloc _).drew|exact (jbh wr _).drew) (by omega) (by omega) (by omega) (by first|omega|(simp;done)|(simp;omega)) (HTK.out wr hW).1 (HTK.out _ bi).2 ?_;intro A5 c5 w5 ho5 hg5 _;have hb5:Below wr.heap.size wr w5:=Below.trans bi (ja8 hg5 (by first|omega|(simp;done)|(simp;omega)) (fun j hj=>by cases hj;(first|omega|(simp;done)|(simp;omega))));have _:=bm hb5;have HO5:=qh ho5;clear ho5;refine hK.out _ _ (fun _=>hb5) ?_;clear hK K;refine ja0 (rs:=[8]) (by kernel_rfl) (by simp) (AllT.cons rfl (fun K hK=> ?_) AllT.nil);go_simp;refine hK.out _ _ (fun _=>bi) ?_;clear hK K
      case' o4=>
       go_simp;refine hK.out _ _ (fun _=>bi) ?_;clear hK K;refine ja0 (rs:=[4]) (by kernel_rfl) (by simp) (AllT.cons rfl (fun K hK=> ?_) AllT.nil);rw [if_pos (by rfl)];refine jb6 (base:=wr.heap.size) (n:=0) (N:=i) (ps:=[]) (qs:=(lots ks cs).take i) _ _ rfl rfl rfl rfl (by first|exact (jaD wr).drew|exact ((jaD wr).alloc _).drew|exact (jbh wr _).drew) (by omega) (by omega) (by omega) (by first|omega|(simp;done)|(simp;omega)) (HTK.out wr hW).1 (HTK.out _ bi).2 ?_;intro A5 c5 w5 ho5 hg5 _;have hb5:Below wr.heap.size wr w5:=Below.trans bi (ja8 hg5 (by first|omega|(simp;done)|(simp;omega)) (fun j hj=>by cases hj;(first|omega|(simp;done)|(simp;omega))));have _:=bm hb5;have HO5:=qh ho5;clear ho5;refine hK.out _ _ (fun _=>hb5) ?_;clear hK K
     case' o2=>
      go_simp;refine hK.out _ _ (fun _=>bi) ?_;clear hK K;refine ja0 (rs:=[0]) (by kernel_rfl) (by simp) (AllT.cons rfl (fun K hK=> ?_) AllT.nil);go_simp;refine hK.out _ _ (fun _=>bi) ?_;clear hK K;refine ja0 (rs:=[4]) (by kernel_rfl) (by simp) (AllT.cons rfl (fun K hK=> ?_) AllT.nil);rw [if_pos (by rfl)];refine jb6 (base:=wr.heap.size) (n:=0) (N:=i) (ps:=[]) (qs:=(lots ks cs).take i) _ _ rfl rfl rfl rfl (by first|exact (jaD wr).drew|exact ((jaD wr).alloc _).drew|exact (jbh wr _).drew) (by omega) (by omega) (by omega) (by first|omega|(simp;done)|(simp;omega)) (HTK.out wr hW).1 (HTK.out _ bi).2 ?_;intro A5 c5 w5 ho5 hg5 _;have hb5:Below wr.heap.size wr w5:=Below.trans bi (ja8 hg5 (by first|omega|(simp;done)|(simp;omega)) (fun j hj=>by cases hj;(first|omega|(simp;done)|(simp;omega))));have _:=bm hb5;have HO5:=qh ho5;clear ho5;refine hK.out _ _ (fun _=>hb5) ?_;clear hK K
     all_goals
      refine rd1 9 (by kernel_rfl) rfl (fun K hK=> ?_);rw [if_pos (by rfl)];refine jb6 (base:=wr.heap.size) (n:=i) (m:=1) (N:=i+1) (ps:=[]++(lots ks cs).take i) (qs:=[(y,R)]) _ _ rfl rfl rfl rfl (by first|exact HO5.out|exact HO5.out.alloc _) (by omega) (by omega) rfl (by have:=hb5.size;(first|omega|(simp;done)|(simp;omega))) rfl (fun j hj=>by obtain rfl:j=0:=(by omega);first|(simp;done)|exact ⟨hg5.cell (by simp) (jfU rfl),hg5.cell (by simp) (jfU rfl)⟩|exact ⟨hg5.cell (by simp) (jgm rfl),hg5.cell (by simp) (jgm rfl)⟩) ?_;intro A6 c6 w6 ho6 hg6 _;have hb6:Below wr.heap.size wr w6:=Below.trans bi (ja8 hg6 (by have:=hb5.size;(first|omega|(simp;done)|(simp;omega))) (fun j hj=>jca HO5.out j hj));have _:=bm hb6;refine hK.out _ _ (fun _=>hb6) ?_;clear hK K;refine rd1 13 (by kernel_rfl) rfl (fun K hK=> ?_);rw [if_pos (by rfl)];refine jb6 (base:=wr.heap.size) (n:=i+1) (m:=n - i) (N:=n+1) (qs:=(lots ks cs).drop i) _ _ rfl rfl rfl rfl ho6 (by omega) (by omega) (by omega) hb6.size (HDR.out wr hW).1 (HDR.out _ hb6).2 ?_;intro A7 c7 w7 ho7 hg7 _;have hb7:Below wr.heap.size wr w7:=Below.trans hb6 (ja8 hg7 hb6.size (fun j hj=>jca ho6 j hj));have _:=bm hb7;have HO7:=qh ho7;clear ho7 hg7 ho6 hg6 hg5;refine hK.out _ _ (fun _=>hb7) ?_;clear hK K;refine rd1 14 (by kernel_rfl) rfl (fun K hK=> ?_);go_simp;refine hK.out _ _ (fun _=>bi) ?_;clear hK K;refine ja2 (by kernel_rfl) ?_ _;go_wp2;go_ret;have p1:=HO7.out;rw [List.nil_append,List.append_assoc,List.singleton_append,←HRR.out,←jgy HNM.out.1 HNM.out.2.1] at p1;exact ⟨_,_,ks.take i++y::ks.drop i,by rw [HNM.out.2.2.1];rfl,by rw [HNM.out.2.2.1];exact jdy p1 hb.size,HNM.out.2.2.2,jhQ HM.out,ja1 hb hb7⟩
  ·have p0:decide (i < n)=false:=by simp;omega
   have e:i=n:=by omega
   obtain ⟨b,o,rfl,hbl,hat⟩:=(H.out.below hb).at_ (by have:=H0.out;omega);have hic:i≤c:=by have:=HN.out;omega
   have hnn:=HN.out;have HTK:=qh (fun W (hW:Below wr.heap.size wr W)=>((H.out.below hb).below hW).cells_take hin);obtain ⟨q,hq⟩:∃q,(if c=i then some (⟨b,o,none⟩:Addr) else some ⟨b,o+i*2,none⟩)=some ⟨b,q,none⟩:=by split;exact ⟨_,rfl⟩;exact ⟨_,rfl⟩
   have HDR:Hid (∀W,Below wr.heap.size wr W→((lots ks cs).drop i).length=n - i∧∀j,j < n - i→W.cell? ⟨b,q+j*2,none⟩=some (bs (((lots ks cs).drop i).getD j ([],[])).1)∧W.cell? ⟨b,q+j*2+1,none⟩=some (bs (((lots ks cs).drop i).getD j ([],[])).2)):=qh (fun W hW=>⟨by rw [List.length_drop,jbM,HL.out],fun j hj=>absurd hj (by omega)⟩);have HNM:=qh (jeL (r:=r) HO.out HM.out (jlk HLT.out (by rw [HL.out];omega)) (by rw [List.drop_eq_nil_of_le (by rw [HL.out];omega)];intro x hx;cases hx) HL.out);clear hi hat e;go_upto_region 8 with (fail)
   refine ja3 (fun w'=>Below wr.heap.size wr w') [] (by kernel_rfl) ?_;refine tb 1 (.slice (some ⟨b,o,none⟩) n c) [] rfl (by kernel_rfl) pk rfl (by intros;go_simp) bq0 ?_;refine tb 2 (.int .i64 (i:Int)) [] rfl (by kernel_rfl) pk rfl (by intros;go_simp) bq0 ?_;refine tb 3 (.slice (some ⟨b,o,none⟩) i c) [] rfl (by kernel_rfl) pk rfl (by intros;go_simp) bq0 ?_;refine tb 5 (bs y) [] rfl (by kernel_rfl) pk rfl (by intros;go_simp) bq0 ?_;refine tb 6 (bs R) [] rfl (by kernel_rfl) pk rfl (by intros;go_simp) bq0 ?_;refine tb 7 (.agg #[bs y,bs R]) [] rfl (by kernel_rfl) pk rfl (by intros;go_simp) bq0 ?_;refine tb 10 (.slice (some ⟨b,o,none⟩) n c) [] rfl (by kernel_rfl) pk rfl (by intros;go_simp) bq0 ?_;refine tb 11 (.int .i64 (i:Int)) [] rfl (by kernel_rfl) pk rfl (by intros;go_simp) bq0 ?_;refine tb 12 (.slice (some ⟨b,q,none⟩) (n - i) (c - i)) [] rfl (by kernel_rfl) pk rfl (by intros;go_simp) bq0 ?_;simp only [ppq];have hW:=Below.refl wr.heap.size wr;refine ja0 (rs:=[0,8]) (by kernel_rfl) (by simp) (AllT.cons rfl (fun K hK=> ?o5) (AllT.cons rfl (fun K hK=> ?o6) AllT.nil))
   case' o5=>
    go_simp;refine hK.out _ _ (fun _=>bi) ?_;clear hK K;refine ja0 (rs:=[4,8]) (by kernel_rfl) (by simp) (AllT.cons rfl (fun K hK=> ?o7) (AllT.cons rfl (fun K hK=> ?o8) AllT.nil))
    case' o7=>
     rw [if_pos (by rfl)];refine jb6 (base:=wr.heap.size) (n:=0) (N:=i) (ps:=[]) (qs:=(lots ks cs).take i) _ _ rfl rfl rfl rfl (by first|exact (jaD wr).drew|exact ((jaD wr).alloc _).drew|exact (jbh wr _).drew) (by omega) (by omega) (by omega) (by first|omega|(simp;done)|(simp;omega)) (HTK.out wr hW).1 (HTK.out _ bi).2 ?_;intro A5 c5 w5 ho5 hg5 _;have hb5:Below wr.heap.size wr w5:=Below.trans bi (ja8 hg5 (by first|omega|(simp;done)|(simp;omega)) (fun j hj=>by cases hj;(first|omega|(simp;done)|(simp;omega))));have _:=bm hb5;have HO5:=qh ho5;clear ho5;refine hK.out _ _ (fun _=>hb5) ?_;clear hK K;refine ja0 (rs:=[8]) (by kernel_rfl) (by simp) (AllT.cons rfl (fun K hK=> ?_) AllT.nil);go_simp;refine hK.out _ _ (fun _=>bi) ?_;clear hK K
    case' o8=>
     go_simp;refine hK.out _ _ (fun _=>bi) ?_;clear hK K;refine ja0 (rs:=[4]) (by kernel_rfl) (by simp) (AllT.cons rfl (fun K hK=> ?_) AllT.nil);rw [if_pos (by rfl)];refine jb6 (base:=wr.heap.size) (n:=0) (N:=i) (ps:=[]) (qs:=(lots ks cs).take i) _ _ rfl rfl rfl rfl (by first|exact (jaD wr).drew|exact ((jaD wr).alloc _).drew|exact (jbh wr _).drew) (by omega) (by omega) (by omega) (by first|omega|(simp;done)|(simp;omega)) (HTK.out wr hW).1 (HTK.out _ bi).2 ?_;intro A5 c5 w5 ho5 hg5 _;have hb5:Below wr.heap.size wr w5:=Below.trans bi (ja8 hg5 (by first|omega|(simp;done)|(simp;omega)) (fun j hj=>by cases hj;(first|omega|(simp;done)|(simp;omega))));have _:=bm hb5;have HO5:=qh ho5;clear ho5;refine hK.out _ _ (fun _=>hb5) ?_;clear hK K
   case' o6=>
    go_simp;refine hK.out _ _ (fun _=>bi) ?_;clear hK K;refine ja0 (rs:=[0]) (by kernel_rfl) (by simp) (AllT.cons rfl (fun K hK=> ?_) AllT.nil);go_simp;refine hK.out _ _ (fun _=>bi) ?_;clear hK K;refine ja0 (rs:=[4]) (by kernel_rfl) (by simp) (AllT.cons rfl (fun K hK=> ?_) AllT.nil);rw [if_pos (by rfl)];refine jb6 (base:=wr.heap.size) (n:=0) (N:=i) (ps:=[]) (qs:=(lots ks cs).take i) _ _ rfl rfl rfl rfl (by first|exact (jaD wr).drew|exact ((jaD wr).alloc _).drew|exact (jbh wr _).drew) (by omega) (by omega) (by omega) (by first|omega|(simp;done)|(simp;omega)) (HTK.out wr hW).1 (HTK.out _ bi).2 ?_;intro A5 c5 w5 ho5 hg5 _;have hb5:Below wr.heap.size wr w5:=Below.trans bi (ja8 hg5 (by first|omega|(simp;done)|(simp;omega)) (fun j hj=>by cases hj;(first|omega|(simp;done)|(simp;omega))));have _:=bm hb5;have HO5:=qh ho5;clear ho5;refine hK.out _ _ (fun _=>hb5) ?_;clear hK K
   all_goals
    refine rd1 9 (by kernel_rfl) rfl (fun K hK=> ?_);rw [if_pos (by rfl)];refine jb6 (base:=wr.heap.size) (n:=i) (m:=1) (N:=i+1) (ps:=[]++(lots ks cs).take i) (qs:=[(y,R)]) _ _ rfl rfl rfl rfl (by first|exact HO5.out|exact HO5.out.alloc _) (by omega) (by omega) rfl (by have:=hb5.size;(first|omega|(simp;done)|(simp;omega))) rfl (fun j hj=>by obtain rfl:j=0:=(by omega);first|(simp;done)|exact ⟨hg5.cell (by simp) (jfU rfl),hg5.cell (by simp) (jfU rfl)⟩|exact ⟨hg5.cell (by simp) (jgm rfl),hg5.cell (by simp) (jgm rfl)⟩) ?_;intro A6 c6 w6 ho6 hg6 _;have hb6:Below wr.heap.size wr w6:=Below.trans bi (ja8 hg6 (by have:=hb5.size;(first|omega|(simp;done)|(simp;omega))) (fun j hj=>jca HO5.out j hj));have _:=bm hb6;refine hK.out _ _ (fun _=>hb6) ?_;clear hK K;refine rd1 13 (by kernel_rfl) rfl (fun K hK=> ?_);rw [if_pos (by rfl)];refine jb6 (base:=wr.heap.size) (n:=i+1) (m:=n - i) (N:=n+1) (qs:=(lots ks cs).drop i) _ _ rfl rfl rfl rfl ho6 (by omega) (by omega) (by omega) hb6.size (HDR.out wr hW).1 (HDR.out _ hb6).2 ?_;intro A7 c7 w7 ho7 hg7 _;have hb7:Below wr.heap.size wr w7:=Below.trans hb6 (ja8 hg7 hb6.size (fun j hj=>jca ho6 j hj));have _:=bm hb7;have HO7:=qh ho7;clear ho7 hg7 ho6 hg6 hg5;refine hK.out _ _ (fun _=>hb7) ?_;clear hK K;refine rd1 14 (by kernel_rfl) rfl (fun K hK=> ?_);go_simp;refine hK.out _ _ (fun _=>bi) ?_;clear hK K;refine ja2 (by kernel_rfl) ?_ _;go_wp2;go_ret;have p1:=HO7.out;rw [List.nil_append,List.append_assoc,List.singleton_append,←HRR.out,←jgy HNM.out.1 HNM.out.2.1] at p1;exact ⟨_,_,ks.take i++y::ks.drop i,by rw [HNM.out.2.2.1];rfl,by rw [HNM.out.2.2.1];exact jdy p1 hb.size,HNM.out.2.2.2,jhQ HM.out,ja1 hb hb7⟩
theorem jpW:Calls Tryz.prog 51 #[.slice none 0 0,bs y,bs (tq r)] w (Put w [(y,r)]):=by
 obtain ⟨R,hR⟩:∃R,tq r=R:=⟨_,rfl⟩;rw [hR];have HRR:=qh hR;clear hR;go_enter Tryz.func51,Tryz.ntmps51;go_wp2
 go_loopw [7] (fun u wr=>u= .int .i64 0∧Below w.heap.size w wr) (fun u _=>0)
 case atStart=>exact ⟨rfl,bi⟩
 case round=>
  obtain ⟨rfl,hb⟩:=hrel;have _:=bm hb;have HNM:=qh (jeL (ks:=[]) (cs:=[]) (i:=0) (n:=0) (y:=y) (r:=r) ⟨List.nodup_nil,List.Pairwise.nil⟩ (fun x=>by simp [jbF]) (by simp) (by simp) rfl);go_upto_region 8 with (fail)
  refine ja3 (fun w'=>Below wr.heap.size wr w') [] (by kernel_rfl) ?_;refine tb 1 (.slice none 0 0) [] rfl (by kernel_rfl) pk rfl (by intros;go_simp) bq0 ?_;refine tb 2 (.int .i64 0) [] rfl (by kernel_rfl) pk rfl (by intros;go_simp) bq0 ?_;refine tb 3 (.slice none 0 0) [] rfl (by kernel_rfl) pk rfl (by intros;go_simp) bq0 ?_;refine tb 5 (bs y) [] rfl (by kernel_rfl) pk rfl (by intros;go_simp) bq0 ?_;refine tb 6 (bs R) [] rfl (by kernel_rfl) pk rfl (by intros;go_simp) bq0 ?_;refine tb 7 (.agg #[bs y,bs R]) [] rfl (by kernel_rfl) pk rfl (by intros;go_simp) bq0 ?_;refine tb 10 (.slice none 0 0) [] rfl (by kernel_rfl) pk rfl (by intros;go_simp) bq0 ?_;refine tb 11 (.int .i64 0) [] rfl (by kernel_rfl) pk rfl (by intros;go_simp) bq0 ?_;refine tb 12 (.slice none 0 0) [] rfl (by kernel_rfl) pk rfl (by intros;go_simp) bq0 ?_;simp only [ppq];have hW:=Below.refl wr.heap.size wr;refine ja0 (rs:=[0,8]) (by kernel_rfl) (by simp) (AllT.cons rfl (fun K hK=> ?o9) (AllT.cons rfl (fun K hK=> ?o10) AllT.nil))
  case' o9=>
   go_simp;refine hK.out _ _ (fun _=>bi) ?_;clear hK K;refine ja0 (rs:=[4,8]) (by kernel_rfl) (by simp) (AllT.cons rfl (fun K hK=> ?o11) (AllT.cons rfl (fun K hK=> ?o12) AllT.nil))
   case' o11=>
    rw [if_pos (by rfl)];refine jec (base:=wr.heap.size) (n:=0) (ps:=[]) _ _ rfl rfl rfl rfl (by first|exact (jaD wr).drew|exact ((jaD wr).alloc _).drew|exact (jbh wr _).drew) ?_;refine hK.out _ _ (fun _=>bi) ?_;clear hK K;simp only [ppq];refine ja0 (rs:=[8]) (by kernel_rfl) (by simp) (AllT.cons rfl (fun K hK=> ?_) AllT.nil);go_simp;refine hK.out _ _ (fun _=>bi) ?_;clear hK K
   case' o12=>
    go_simp;refine hK.out _ _ (fun _=>bi) ?_;clear hK K;refine ja0 (rs:=[4]) (by kernel_rfl) (by simp) (AllT.cons rfl (fun K hK=> ?_) AllT.nil);rw [if_pos (by rfl)];refine jec (base:=wr.heap.size) (n:=0) (ps:=[]) _ _ rfl rfl rfl rfl (by first|exact (jaD wr).drew|exact ((jaD wr).alloc _).drew|exact (jbh wr _).drew) ?_;refine hK.out _ _ (fun _=>bi) ?_;clear hK K;simp only [ppq]
  case' o10=>
   go_simp;refine hK.out _ _ (fun _=>bi) ?_;clear hK K;refine ja0 (rs:=[0]) (by kernel_rfl) (by simp) (AllT.cons rfl (fun K hK=> ?_) AllT.nil);go_simp;refine hK.out _ _ (fun _=>bi) ?_;clear hK K;refine ja0 (rs:=[4]) (by kernel_rfl) (by simp) (AllT.cons rfl (fun K hK=> ?_) AllT.nil);rw [if_pos (by rfl)];refine jec (base:=wr.heap.size) (n:=0) (ps:=[]) _ _ rfl rfl rfl rfl (by first|exact (jaD wr).drew|exact ((jaD wr).alloc _).drew|exact (jbh wr _).drew) ?_;refine hK.out _ _ (fun _=>bi) ?_;clear hK K;simp only [ppq]
  all_goals
   refine rd1 9 (by kernel_rfl) rfl (fun K hK=> ?_);rw [if_pos (by rfl)];refine jb6 (base:=wr.heap.size) (n:=0) (m:=1) (N:=1) (ps:=[]) (qs:=[(y,R)]) _ _ rfl rfl rfl rfl (by first|exact ((jaD wr).alloc _).drew|exact (jbh wr _).drew) (by omega) (by omega) rfl (by first|omega|(simp;done)|(simp;omega)) rfl (fun j hj=>by obtain rfl:j=0:=(by omega);simp;done) ?_;intro A6 c6 w6 ho6 hg6 _;have hb6:Below wr.heap.size wr w6:=Below.trans bi (ja8 hg6 (by first|omega|(simp;done)|(simp;omega)) (fun j hj=>by cases hj;(first|omega|(simp;done)|(simp;omega))));have _:=bm hb6;have HO6:=qh ho6;clear ho6 hg6;refine hK.out _ _ (fun _=>hb6) ?_;clear hK K;refine rd1 13 (by kernel_rfl) rfl (fun K hK=> ?_);rw [if_pos (by rfl)];refine jec (base:=wr.heap.size) (n:=1) _ _ rfl rfl rfl rfl HO6.out ?_;refine hK.out _ _ (fun _=>hb6) ?_;clear hK K;simp only [ppq];refine rd1 14 (by kernel_rfl) rfl (fun K hK=> ?_);go_simp;refine hK.out _ _ (fun _=>bi) ?_;clear hK K;refine ja2 (by kernel_rfl) ?_ _;go_wp2;go_ret;have p1:=HO6.out;exact ⟨_,_,[y],rfl,jdy (by rw [jnm (y:=y) (r:=r),HRR.out];exact p1) hb.size,HNM.out.2.2.2,fun x=>by { simp [jbF];exact ⟨Eq.symm,Eq.symm⟩ },ja1 hb hb6⟩
end
end Go.Proofs.YteokfcjdfjhhhaaGreatDoor
