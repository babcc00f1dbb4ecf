/- Parts. -/
import Derived.Test.YtomkgioebbefnaaGreatDoorMlG
set_option linter.all false
set_option maxRecDepth 100000
set_option maxHeartbeats 8000000
namespace Go.Proofs.YtomkgioebbefnaaGreatDoor
open Go Go.RowKit

structure SmallQ (x:Rat):Prop where
 lo: -9223372036854775808 < x.num
 hi:x.num < 9223372036854775808
 den:x.den < 9223372036854775808
theorem Rep.is_small {w:World} {s z:Int} {A:Option Addr} {n c:Nat} (h:Rep w s A n c z) (h0: -9223372036854775808 < z) (h1:z < 9223372036854775808):s=z∧A=none∧n=0∧c=0:=by
 cases h with
 | small _ _ _=>exact ⟨rfl,rfl,rfl,rfl⟩
 | plus _ _ _ ds h=>have:=h.big;omega
 | minus _ _ _ ds h=>have:=h.big;omega
abbrev fq (x:Rat):Value:=fv x.num none 0 0 ((x.den:Nat):Int) none 0 0
theorem SmallQ.rep {x:Rat} (h:SmallQ x) (w:World):RepF w x.num none 0 0 ((x.den:Nat):Int) none 0 0 x:=
 ⟨.small _ (by have:=h.lo;omega) h.hi, .small _ (by omega) (by have:=h.den;omega)⟩
theorem SmallQ.post {x:Rat} (hs:SmallQ x) {w w':World} {e:Ending} (h:jab x w e w'):e= .returned (fq x)∧Below w.heap.size w w':=by
 obtain ⟨s,A,n,c,t,B,m,d,rfl,⟨h1,h2⟩,hb⟩:=h
 obtain ⟨rfl,rfl,rfl,rfl⟩:=h1.is_small hs.lo hs.hi
 obtain ⟨rfl,rfl,rfl,rfl⟩:=h2.is_small (by omega) (by have:=hs.den;omega)
 exact ⟨rfl,hb⟩
theorem SmallQ.sz {x:Rat} (h:SmallQ x):Sz 1 x:=⟨by rw [Nat.pow_one,ja7];have:=h.lo;have:=h.hi;omega,by rw [Nat.pow_one,ja7];have:=h.den;omega⟩
theorem jfo {w:World} {l:List UInt8} {x:Rat} (h:IsNum l x) (hs:SmallQ x) (hE:Env w):Calls Tryz.prog 63 #[bs l] w fun e w'=>e= .returned (fq x)∧Below w.heap.size w w':=
 (jav h hE).mono fun _ _ h=>hs.post h
def fqs (qs:List Rat):List Value:=qs.flatMap fun q=> [.int .i64 q.num, .slice none 0 0, .int .i64 ((q.den:Nat):Int), .slice none 0 0]
theorem jdz (a b:List Rat):fqs (a++b)=fqs a++fqs b:=by simp [fqs]
theorem jox:∀(a:List Rat) (j k:Nat),j < a.length→k < 4→(fqs a)[j*4+k]? =(fqs [a.getD j 0])[k]?
 | [],j,k,h,_=>absurd h (by simp)
 | q::r,0,k,_,hk=>by
   rw [show fqs (q::r)=fqs [q]++fqs r from jdz [q] r,List.getElem?_append_left (by simp [fqs];omega)];simp
 | q::r,j+1,k,h,hk=>by
   rw [show fqs (q::r)=fqs [q]++fqs r from jdz [q] r,List.getElem?_append_right (by simp [fqs];omega)]
   have e:(j+1)*4+k - (fqs [q]).length=j*4+k:=by simp [fqs];omega
   rw [e,jox r j k (by simpa using h) hk];simp
abbrev Own (w:World) (base:Nat) (v:Value) (n:Nat) (qs:List Rat):Prop:=w.ownsRow base 72 4 v n (fqs qs)
theorem jop (g j:Nat):(⟨g,0,none⟩:Addr).add j=⟨g,j,none⟩:=by unfold Addr.add;split <;> simp_all
theorem Own.qv {w:World} {base n:Nat} {v:Value} {qs:List Rat} (h:Own w base v n qs) (hl:qs.length=n) (h0:0 < n) (hs:∀q∈qs,SmallQ q):∃A c,v= .slice A n c∧Qv w A n qs:=by
 rcases h.2 with ⟨rfl,h1⟩|⟨g,cap,cur,rfl,hb,hg,hnc,hcm,hcs,ht⟩
 ·omega
 ·refine ⟨some ⟨g,0,none⟩,cap,rfl,hl,fun _=>⟨g,0,rfl,(Array.getElem?_eq_some_iff.1 hg).1,fun j hj=> ?_⟩⟩
  have hc:=World.ownsRow.cells h (g:=g) rfl
  have hq:qs.getD j 0∈qs:=by
   have:j < qs.length:=by omega
   rw [List.getD_eq_getElem?_getD,List.getElem?_eq_getElem this];exact List.getElem_mem this
  have c (k:Nat) (hk:k < 4) (u:Value) (hu:(fqs [qs.getD j 0])[k]? =some u):w.cell? ⟨g,0+j*4+k,none⟩=some u:=by
   have:=hc (j*4+k) u (by rw [jox qs j k (by omega) hk,hu])
   rw [jop] at this
   rw [Nat.zero_add];exact this
  exact ⟨⟨_,_,_,_,_,_,_,_,c 0 (by omega) _ rfl,c 1 (by omega) _ rfl,c 2 (by omega) _ rfl,c 3 (by omega) _ rfl,(hs _ hq).rep w⟩⟩
theorem ji1 {w w':World} (h:Below w.heap.size w w'):w.grownBy w' none:=⟨h.os,h.tape,h.output,h.size,fun k hk _=>h.block k hk⟩
theorem jag {w w':World} {base:Nat} {row:Option Nat} (h:w.grownBy w' row) (hb:base≤w.heap.size) (hr:∀k,row=some k→base≤k):Below base w w':=
 ⟨h.os,h.tape,h.output,h.size,fun k hk=>h.block k (Nat.lt_of_lt_of_le hk hb) (fun e=>by have:=hr k e.symm;omega)⟩
theorem Own.below {w w':World} {base n:Nat} {v:Value} {qs:List Rat} (h:Own w base v n qs) (hb:Below w.heap.size w w'):Own w' base v n qs:=
 World.ownsRow.kept h (ji1 hb) (by cases hv:v.ownBlock <;> simp)
theorem jms:(Tryz.prog.info? 72).map (fun i=>(i.zero,i.size,i.bytes))=some (some (.agg #[.int .i64 0, .slice none 0 0, .int .i64 0, .slice none 0 0]),4,64):=by kernel_rfl
theorem jmW {w:World} {base n b c:Nat} {v:Value} {qs:List Rat} {x:Rat} (h:Own w base v n qs) (hn:n≤100000) (hb:base≤w.heap.size)
  (h0:w.cell? ⟨b,0,none⟩=some (.int .i64 x.num)) (h1:w.cell? ⟨b,1,none⟩=some (.slice none 0 0)) (h2:w.cell? ⟨b,2,none⟩=some (.int .i64 ((x.den:Nat):Int))) (h3:w.cell? ⟨b,3,none⟩=some (.slice none 0 0)):
  ∃v' w',(Builtin.append_ #[78,78] 78 #[v, .slice (some ⟨b,0,none⟩) 1 c]).run Tryz.prog w= .ok v' w'∧Own w' base v' (n+1) (qs++[x])∧w.grownBy w' v.ownBlock∧(v'.ownBlock=v.ownBlock∨v'.ownBlock=some w.heap.size):=by
 obtain ⟨i,hi,hz0,hz1,hz2⟩:=info_parts jms
 obtain ⟨v',w',hr,k1,k2,_,k3⟩:=run_append_own_at (P:=Tryz.prog) w base 78 78 72 i _ 4 64 Tryz.underlying78 hi hz0 hz1 hz2 rfl (by decide) v n (fqs qs) h ⟨b,0,none⟩ 1 c (fqs [x]) (by simp [fqs])
  (by
    intro j u hu
    rw [jop]
    match j,hu with
    | 0,hu=>simp [fqs] at hu;subst hu;exact h0
    | 1,hu=>simp [fqs] at hu;subst hu;exact h1
    | 2,hu=>simp [fqs] at hu;subst hu;exact h2
    | 3,hu=>simp [fqs] at hu;subst hu;exact h3
    | j+4,hu=>simp [fqs] at hu)
  (by intro u hu;simp [fqs] at hu;rcases hu with rfl|rfl|rfl|rfl <;> rfl)
  (by simp only [maxLen];omega) (by omega) hb
 exact ⟨v',w',hr,by rw [Own,jdz];exact k1,k2,k3⟩
theorem jjB {P:Program} {o:Oper} {a:Act} {K:Act→World→Prop} {Q:Exit→Act→World→Prop} {w w':World} {v z v':Value} {t:TypeId} (s y:Operand)
  (ho:o.op= .call { callee:= .builtin .append,args:= #[s,y],argTypes:= #[t,t] }) (hs:a.eval s=v) (hy:a.eval y=z)
  (hr:(Builtin.append_ #[t,t] o.type #[v,z]).run P w= .ok v' w') (hK:K (a.put o.dst v') w'):o.wp P a w K Q:=by
 unfold Oper.wp execOp
 simp only [ho,resolve,invoke,builtin,Sem.run_bind,Sem.run_pure,Result.andThen_ok,List.map_toArray,List.map_cons,List.map_nil,hs,hy,hr]
 exact hK
theorem jhw {o:Oper} {a:Act} {K:Act→World→Prop} {Q:Exit→Act→World→Prop} {w:World} {base n b c:Nat} {v:Value} {qs:List Rat} {x:Rat} (s y:Operand)
  (ho:o.op= .call { callee:= .builtin .append,args:= #[s,y],argTypes:= #[78,78] }) (ht:o.type=78) (hs:a.eval s=v) (hy:a.eval y= .slice (some ⟨b,0,none⟩) 1 c)
  (h:Own w base v n qs) (hn:n≤100000) (hb:base≤w.heap.size)
  (h0:w.cell? ⟨b,0,none⟩=some (.int .i64 x.num)) (h1:w.cell? ⟨b,1,none⟩=some (.slice none 0 0)) (h2:w.cell? ⟨b,2,none⟩=some (.int .i64 ((x.den:Nat):Int))) (h3:w.cell? ⟨b,3,none⟩=some (.slice none 0 0))
  (hK:∀v' w',Own w' base v' (n+1) (qs++[x])→w.grownBy w' v.ownBlock→(v'.ownBlock=v.ownBlock∨v'.ownBlock=some w.heap.size)→K (a.put o.dst v') w'):o.wp Tryz.prog a w K Q:=by
 obtain ⟨v',w',hr,k1,k2,k3⟩:=jmW h hn hb h0 h1 h2 h3
 exact jjB s y ho hs hy (by rw [ht];exact hr) (hK v' w' k1 k2 k3)

theorem jhd {l:List Rat} {i:Nat} {r:Rat} (h:i < l.length) (hr:l.getD i 0=r):l.take i++[r]=l.take (i+1):=by
 rw [List.take_add_one,List.getElem?_eq_getElem h]
 rw [List.getD_eq_getElem?_getD,List.getElem?_eq_getElem h] at hr
 simp at hr
 simp [hr]
section
variable {w:World} {A:Option Addr} {n c:Nat} {ls:List (List UInt8×List UInt8)}
theorem jjE {w:World} {A:Option Addr} {n c:Nat} {ls:List (List UInt8×List UInt8)} {k:Int} (hk:jac jaZ ls=k) (hE:Env w) (hs:Pv w A n ls) (hn:n≤100000) (hl:∀p∈ls,p.1.length < 4294967281∧p.2.length < 4294967281):
  Calls Tryz.prog 29 #[.func (.func 30) #[] #[], .slice A n c] w fun e w'=>e= .returned (.int .i64 k)∧Below w.heap.size w w':=by
 subst hk
 exact jcN (c:=c) (f:=jaZ) hs hn (fun l hm V hV=>jer (hE.below hV) (hl l hm).1 (hl l hm).2)
end
theorem jh6 {w w':World} (h:Below w.drew.heap.size w.drew w'):Below w.heap.size w w':=⟨h.os,h.tape,h.output,h.size,h.block⟩
theorem jaL {w:World} {a:Addr} {v:Value} (h:w.cell? a=some v) (o:Obj):(w.alloc o).cell? a=some v:=by
 rw [World.cell?_alloc_lt _ _ _ (World.block_lt_of_cell? _ _ h)];exact h
theorem jpn {base i:Nat} {wr w3 w5 w9:World} {u2 u3:Value} {L2:List Rat} {o0 o3 o9:Obj} (ho2:Own wr base u3 i L2) (hne:∀g,u2.ownBlock=some g→u3.ownBlock≠some g)
  (hb3:Below (wr.alloc o0).heap.size (wr.alloc o0) w3) (hg5:(w3.alloc o3).grownBy w5 u2.ownBlock) (hb9:Below w5.heap.size w5 w9):Own (w9.alloc o9) base u3 i L2:=
 World.ownsRow.alloc (Own.below (World.ownsRow.kept (World.ownsRow.alloc (Own.below (World.ownsRow.alloc ho2 o0) hb3) o3) hg5 (by
  cases h:u2.ownBlock with
  | none=>cases h':u3.ownBlock <;> simp
  | some g=>exact .inr (hne g h))) hb9) o9
theorem jg7 {base i g:Nat} {wr:World} {u:Value} {L:List Rat} (ho:Own wr base u i L) (hg:wr.heap.size≤g):some g≠u.ownBlock:=fun e=>by
 have:=(World.ownsRow.lt ho g e.symm).2;omega
theorem jm0 {base i:Nat} {w wr w3 w5 w9 w11:World} {u2 u3 v1 v2:Value} {L1 L2 K1 K2:List Rat} {o0 o3 o9:Obj} (hbase:base=w.heap.size) (hb:Below w.heap.size w wr) (ho1:Own wr base u2 i L1) (ho2:Own wr base u3 i L2) (hne:∀g,u2.ownBlock=some g→u3.ownBlock≠some g)
  (hb3:Below (wr.alloc o0).heap.size (wr.alloc o0) w3) (hg5:(w3.alloc o3).grownBy w5 u2.ownBlock) (h5:Own w5 base v1 (i+1) K1) (hl5:v1.ownBlock=u2.ownBlock∨v1.ownBlock=some (w3.alloc o3).heap.size)
  (hb9:Below w5.heap.size w5 w9) (hg11:(w9.alloc o9).grownBy w11 u3.ownBlock) (h11:Own w11 base v2 (i+1) K2) (hl11:v2.ownBlock=u3.ownBlock∨v2.ownBlock=some (w9.alloc o9).heap.size):
  Below w.heap.size w w11∧Own w11 base v1 (i+1) K1∧(∀g,v1.ownBlock=some g→v2.ownBlock≠some g):=by
 subst hbase
 have z0:=hb.size
 have z3:=hb3.size
 have z5:=hg5.size
 have z9:=hb9.size
 simp only [World.size_alloc] at z3 z5
 have hw3:Below w.heap.size w (w3.alloc o3):=ja6 (ja1 (ja6 hb o0) hb3) o3
 have hw5:Below w.heap.size w w5:=hw3.trans (jag hg5 hw3.size (fun k hk=>(World.ownsRow.lt ho1 k hk).1))
 have hw9:Below w.heap.size w (w9.alloc o9):=ja6 (ja1 hw5 hb9) o9
 have hw11:Below w.heap.size w w11:=hw9.trans (jag hg11 hw9.size (fun k hk=>(World.ownsRow.lt ho2 k hk).1))
 have hd:∀g,v1.ownBlock=some g→u3.ownBlock≠some g:=fun g hg e=>by
  rcases hl5 with hl|hl
  ·exact hne g (hl ▸ hg) e
  ·rw [hl] at hg
   have:=(World.ownsRow.lt ho2 g e).2
   simp at hg;omega
 refine ⟨hw11,World.ownsRow.kept (World.ownsRow.alloc (Own.below h5 hb9) o9) hg11 ?_,fun g hg e=> ?_⟩
 ·cases h:v1.ownBlock with
  | none=>exact .inl rfl
  | some g=>exact .inr (fun e=>hd g h e.symm)
 ·rcases hl11 with hl|hl
  ·exact hd g hg (hl ▸ e)
  ·rw [hl] at e
   have:=(World.ownsRow.lt h5 g hg).2
   simp at e;omega
section
variable {w:World} {A:Option Addr} {n c:Nat} {ls:List (List UInt8×List UInt8)} {los his:List Rat}
theorem jnf (hE:Env w) (hs:Pv w A n ls) (h0:0 < n) (hn:n≤256) (hl:∀p∈ls,p.1.length < 4294967281∧p.2.length < 4294967281) (hk:jac jaZ ls=0)
  (hlo:los.length=n) (hhi:his.length=n) (hq:∀j,j < n→IsNum (ls.getD j ([],[])).1 (los.getD j 0)∧IsNum (ls.getD j ([],[])).2 (his.getD j 0)∧SmallQ (los.getD j 0)∧SmallQ (his.getD j 0)):
  Calls Tryz.prog 44 #[.slice A n c] w fun e w'=>∃A1 c1 A2 c2,e= .returned (.tuple #[.slice A1 n c1, .slice A2 n c2, .int .i64 0])∧Qv w' A1 n los∧Qv w' A2 n his∧Below w.heap.size w w':=by
 have q0:((n:Int)==0)=false:=by rw [beq_eq_false_iff_ne];omega
 have q1:decide ((256:Int) < (n:Int))=false:=by rw [decide_eq_false_iff_not];omega
 have HE:=qh hE
 have HS:=qh hs
 have HN:=qh hn
 have HL:=qh hl
 have HK:=qh hk
 have HLO:=qh hlo
 have HHI:=qh hhi
 have HQ:=qh hq
 have H0:=qh h0
 clear hE hs h0 hn hl hk hlo hhi hq
 go_enter Tryz.func44,Tryz.ntmps44
 go_wp2_with ((go_at_call 29;(with_reducible refine mo0 (jjE HK.out (HE.out.below bi) (HS.out.below bi) (by have:=HN.out;omega) HL.out) fun w1 hb1 hc1 hf1 _=> ?_)))
 go_loopw [2,3,21] (fun v1 v2 u wr=>∃(i:Nat),u= .int .i64 (i:Int)∧i≤n∧Below w.heap.size w wr∧Own wr w.heap.size v1 i (los.take i)∧Own wr w.heap.size v2 i (his.take i)∧(∀g,v1.ownBlock=some g→v2.ownBlock≠some g)) (fun _ _ u _=>n - (intOf u).toNat)
 case atStart=>exact ⟨0,rfl,by omega,bi,World.ownsRow_nil _ _ _ _,World.ownsRow_nil _ _ _ _,fun g hg=>by cases hg⟩
 case round=>
  obtain ⟨i,rfl,hin,hb,ho1,ho2,hne⟩:=hrel
  have _:=bm hb
  have HO1:=qh ho1
  have HO2:=qh ho2
  have HNE:=qh hne
  clear ho1 ho2 hne
  by_cases hi:i < n
  ·have p0:decide ((i:Int) < (n:Int))=true:=by simp;exact hi
   have hnn:=HN.out
   obtain ⟨b,o,rfl,hbl,hcell⟩:=(HS.out.below hb).at_ (by omega)
   obtain ⟨hx,hy⟩:=hcell i hi
   obtain ⟨hn1,hn2,hs1,hs2⟩:=HQ.out i hi
   obtain ⟨x1,hx1⟩:∃x,(ls.getD i ([],[])).1=x:=⟨_,rfl⟩
   obtain ⟨x2,hx2⟩:∃x,(ls.getD i ([],[])).2=x:=⟨_,rfl⟩
   rw [hx1] at hx hn1
   rw [hx2] at hy hn2
   obtain ⟨r1,hr1⟩:∃r,los.getD i 0=r:=⟨_,rfl⟩
   obtain ⟨r2,hr2⟩:∃r,his.getD i 0=r:=⟨_,rfl⟩
   rw [hr1] at hn1 hs1
   rw [hr2] at hn2 hs2
   have HN1:=qh hn1
   have HN2:=qh hn2
   have HS1:=qh hs1
   have HS2:=qh hs2
   have HT1:Hid (los.take i++[r1]=los.take (i+1)):=qh (jhd (by rw [HLO.out];exact hi) hr1)
   have HT2:Hid (his.take i++[r2]=his.take (i+1)):=qh (jhd (by rw [HHI.out];exact hi) hr2)
   have HI:=qh hi
   clear hcell hn1 hn2 hs1 hs2 hx1 hx2 hr1 hr2 hi
   go_upto_region 11 with (fail)
   have s01:(wr.alloc (.cells #[.string ⟨x1.toArray⟩, .string ⟨x2.toArray⟩] 24)).cell? ⟨wr.heap.size,0,none⟩=some (bs x1):=by simp
   have s02:(wr.alloc (.cells #[.string ⟨x1.toArray⟩, .string ⟨x2.toArray⟩] 24)).cell? ⟨wr.heap.size,1,none⟩=some (bs x2):=by simp
   refine ja3 (fun w'=>w'.cell? ⟨wr.heap.size,0,none⟩=some (bs x1)∧w'.cell? ⟨wr.heap.size,1,none⟩=some (bs x2)) [] (by kernel_rfl) ?_
   refine tk 0 (u2) [5] rfl (by kernel_rfl) pk (by rfl) ?_ ⟨s01,s02⟩ ?_
   ·intro w' hS'
    obtain ⟨hS1,hS2⟩:=hS'
    go_simp
   simp only [ppq]
   refine tk 1 (.pointer (some ⟨wr.heap.size,0,none⟩)) [2] rfl (by kernel_rfl) pk (by rfl) ?_ ⟨s01,s02⟩ ?_
   ·intro w' hS'
    obtain ⟨hS1,hS2⟩:=hS'
    go_simp
   simp only [ppq]
   refine tk 2 (bs x1) [3] rfl (by kernel_rfl) pk (by rfl) ?_ ⟨s01,s02⟩ ?_
   ·intro w' hS'
    obtain ⟨hS1,hS2⟩:=hS'
    go_simp
   simp only [ppq]
   refine tk 6 (u3) [11] rfl (by kernel_rfl) pk (by rfl) ?_ ⟨s01,s02⟩ ?_
   ·intro w' hS'
    obtain ⟨hS1,hS2⟩:=hS'
    go_simp
   simp only [ppq]
   refine tk 7 (.pointer (some ⟨wr.heap.size,1,none⟩)) [8] rfl (by kernel_rfl) pk (by rfl) ?_ ⟨s01,s02⟩ ?_
   ·intro w' hS'
    obtain ⟨hS1,hS2⟩:=hS'
    go_simp
   simp only [ppq]
   refine tk 8 (bs x2) [9] rfl (by kernel_rfl) pk (by rfl) ?_ ⟨s01,s02⟩ ?_
   ·intro w' hS'
    obtain ⟨hS1,hS2⟩:=hS'
    go_simp
   simp only [ppq]
   refine ja0 (rs:=[3]) (by kernel_rfl) (by simp) (AllT.cons rfl (fun K hK=> ?_) AllT.nil)
   go_simp
   go_wp2_with (go_at_call 63;(with_reducible refine mo0 (jfo HN1.out HS1.out (HE.out.below bi)) fun w3 hb3 hc3 hf3 _=> ?_))
   have hb3:=jh6 hb3
   have s31:=ja5 hb3 s01
   have s32:=ja5 hb3 s02
   refine hK.out _ _ (fun _=>⟨s31,s32⟩) ?_
   clear hK K
   refine ja0 (rs:=[4]) (by kernel_rfl) (by simp) (AllT.cons rfl (fun K hK=> ?_) AllT.nil)
   go_simp
   have s41:=jaL s31 (.cells #[.int .i64 r1.num, .slice none 0 0, .int .i64 ((r1.den:Nat):Int), .slice none 0 0] 72)
   have s42:=jaL s32 (.cells #[.int .i64 r1.num, .slice none 0 0, .int .i64 ((r1.den:Nat):Int), .slice none 0 0] 72)
   refine hK.out _ _ (fun _=>⟨s41,s42⟩) ?_
   clear hK K
   refine ja0 (rs:=[5]) (by kernel_rfl) (by simp) (AllT.cons rfl (fun K hK=> ?_) AllT.nil)
   rw [if_pos (by rfl)]
   refine jhw (base:=w.heap.size) (n:=i) (x:=r1) (b:=w3.heap.size) (c:=1) (qs:=los.take i) (v:=u2) (.tmp 25) (.tmp 29) rfl rfl rfl rfl (World.ownsRow.alloc (Own.below (World.ownsRow.alloc HO1.out _) hb3) _) (by have:=HN.out;omega) (by have:=hb.size;have:=hb3.size;simp at this;simp;omega) (by simp) (by simp) (by simp) (by simp) ?_
   intro v5 w5 ho5 hg5 hl5
   have s51:=hg5.cell s41 (jg7 HO1.out (Nat.le_refl _))
   have s52:=hg5.cell s42 (jg7 HO1.out (Nat.le_refl _))
   refine hK.out _ _ (fun _=>⟨s51,s52⟩) ?_
   clear hK K
   simp only [ppq]
   have hb5:Below w.heap.size w w5:=Below.trans (ja6 (ja1 (ja6 hb _) hb3) _) (jag hg5 (by have:=hb.size;have:=hb3.size;simp at this;simp;omega) (fun k hk=>(World.ownsRow.lt HO1.out k hk).1))
   refine ja0 (rs:=[9]) (by kernel_rfl) (by simp) (AllT.cons rfl (fun K hK=> ?_) AllT.nil)
   go_simp
   go_wp2_with (go_at_call 63;(with_reducible refine mo0 (jfo HN2.out HS2.out (HE.out.below hb5)) fun w9 hb9 hc9 hf9 _=> ?_))
   refine hK.out _ _ (fun _=>⟨ja5 hb9 s51,ja5 hb9 s52⟩) ?_
   clear hK K
   refine ja0 (rs:=[10]) (by kernel_rfl) (by simp) (AllT.cons rfl (fun K hK=> ?_) AllT.nil)
   go_simp
   have s101:=jaL (ja5 hb9 s51) (.cells #[.int .i64 r2.num, .slice none 0 0, .int .i64 ((r2.den:Nat):Int), .slice none 0 0] 72)
   have s102:=jaL (ja5 hb9 s52) (.cells #[.int .i64 r2.num, .slice none 0 0, .int .i64 ((r2.den:Nat):Int), .slice none 0 0] 72)
   refine hK.out _ _ (fun _=>⟨s101,s102⟩) ?_
   clear hK K
   refine ja0 (rs:=[11]) (by kernel_rfl) (by simp) (AllT.cons rfl (fun K hK=> ?_) AllT.nil)
   rw [if_pos (by rfl)]
   refine jhw (base:=w.heap.size) (n:=i) (x:=r2) (b:=w9.heap.size) (c:=1) (qs:=his.take i) (v:=u3) (.tmp 31) (.tmp 35) rfl rfl rfl rfl (jpn HO2.out HNE.out hb3 hg5 hb9) (by have:=HN.out;omega) (by have:=hb5.size;have:=hb9.size;simp;omega) (by simp) (by simp) (by simp) (by simp) ?_
   intro v11 w11 ho11 hg11 hl11
   have s111:=hg11.cell s101 (jg7 HO2.out (Nat.le_refl _))
   have s112:=hg11.cell s102 (jg7 HO2.out (Nat.le_refl _))
   refine hK.out _ _ (fun _=>⟨s111,s112⟩) ?_
   have hR:=jm0 rfl hb HO1.out HO2.out HNE.out hb3 hg5 ho5 hl5 hb9 hg11 ho11 hl11
   clear hK K
   simp only [ppq]
   refine ja0 (rs:=[12]) (by kernel_rfl) (by simp) (AllT.cons rfl (fun K hK=> ?_) AllT.nil)
   go_simp
   refine hK.out _ _ (fun _=>⟨s111,s112⟩) ?_
   clear hK K
   refine ja0 (rs:=[13]) (by kernel_rfl) (by simp) (AllT.cons rfl (fun K hK=> ?_) AllT.nil)
   go_simp
   refine hK.out _ _ (fun _=>⟨s111,s112⟩) ?_
   clear hK K
   refine ja2 (by kernel_rfl) ?_ _
   go_wp2
   exact ⟨⟨i+1,by simp,HI.out,hR.1,by rw [←HT1.out];exact hR.2.1,by rw [←HT2.out];exact ho11,hR.2.2⟩,by have:=HI.out;simp [intOf];omega⟩
  ·have p0:decide (i < n)=false:=by simp;omega
   have e:i=n:=by omega
   subst e
   clear hi hin
   go_wp2
   go_ret3
   have h1:=HO1.out
   have h2:=HO2.out
   rw [List.take_of_length_le (by rw [HLO.out];omega)] at h1
   rw [List.take_of_length_le (by rw [HHI.out];omega)] at h2
   obtain ⟨A1,c1,rfl,hq1⟩:=Own.qv h1 HLO.out H0.out (fun q hq=>by
    obtain ⟨j,hj,e⟩:=List.mem_iff_getElem.1 hq
    have:=(HQ.out j (by rw [←HLO.out];exact hj)).2.2.1
    rw [List.getD_eq_getElem?_getD,List.getElem?_eq_getElem hj,Option.getD_some,e] at this
    exact this)
   obtain ⟨A2,c2,rfl,hq2⟩:=Own.qv h2 HHI.out H0.out (fun q hq=>by
    obtain ⟨j,hj,e⟩:=List.mem_iff_getElem.1 hq
    have:=(HQ.out j (by rw [←HHI.out];exact hj)).2.2.2
    rw [List.getD_eq_getElem?_getD,List.getElem?_eq_getElem hj,Option.getD_some,e] at this
    exact this)
   exact ⟨A1,c1,A2,c2,rfl,hq1,hq2,hb⟩
end
end Go.Proofs.YtomkgioebbefnaaGreatDoor
