/- Parts. -/
import Derived.Test.YtdbaealhapgjaaaGreatDoorMbG
import Derived.MapKept
import Derived.Laws.EntriesVeiled
import Derived.Deep.CutRange
set_option linter.all false
set_option maxRecDepth 100000
set_option maxHeartbeats 8000000
namespace Go.Proofs.YtdbaealhapgjaaaGreatDoor
open Go Go.RowKit Go.Proofs.Tryz

theorem jA2 {l:List Rat} {i:Nat} {r:Rat} (h:i < l.length) (hr:l.getD i 0=r):l.take i++[r]=l.take (i+1):=by
 rw [List.take_add_one,List.getElem?_eq_getElem h];rw [List.getD_eq_getElem?_getD,List.getElem?_eq_getElem h] at hr;simp at hr;simp [hr]
section
variable {w:World} {A:Option Addr} {n c:Nat} {ls:List (List UInt8×List UInt8)}
theorem jAC {w:World} {A:Option Addr} {n c:Nat} {ls:List (List UInt8×List UInt8)} {k:Int} (hk:jar jwt ls=k) (hE:Env w) (hs:Pv w A n ls) (hn:n≤100000) (hl:∀p∈ls,p.1.length < 4294967281∧p.2.length < 4294967281):
  Calls prog 83 #[.func (.func 84) #[] #[], .slice A n c] w fun e w'=>e= .returned (.int .i64 k)∧Below w.heap.size w w':=by
 subst hk;exact jzr (c:=c) (f:=jwt) hs hn (fun l hm V hV=>jxV (hE.below hV) (hl l hm).1 (hl l hm).2)
end
theorem jzT {w w':World} (h:Below w.drew.heap.size w.drew w'):Below w.heap.size w w':=⟨h.os,h.tape,h.output,h.size,h.block⟩
theorem jz2 {w:World} {a:Addr} {v:Value} (h:w.cell? a=some v) (o:Obj):(w.alloc o).cell? a=some v:=by
 rw [World.cell?_alloc_lt _ _ _ (World.block_lt_of_cell? _ _ h)];exact h
theorem jzB {base i g:Nat} {wr:World} {u:Value} {V:List FT} {L:List Rat} (ho:OwnF wr base u i V L) (hg:wr.heap.size≤g):some g≠u.ownBlock:=fun e=>by
 have:=(ho.lt g e.symm).2;omega
theorem jBg {base i:Nat} {wr w3 w5 w9:World} {u2 u3:Value} {V1 V2:List FT} {L1 L2:List Rat} {o0 o3 o9:Obj} (ho1:OwnF wr base u2 i V1 L1) (ho2:OwnF wr base u3 i V2 L2) (hne:∀g,u2.ownBlock=some g→u3.ownBlock≠some g)
  (hb3:Below (wr.alloc o0).heap.size (wr.alloc o0) w3) (hg5:(w3.alloc o3).grownBy w5 u2.ownBlock) (hb9:Below w5.heap.size w5 w9):OwnF (w9.alloc o9) base u3 i V2 L2:=
 (((((ho2.alloc o0).below hb3).alloc o3).kept hg5 (((ho1.alloc o0).below hb3).alloc o3).nou (fun g hg e=>hne g e.symm hg)).below hb9).alloc o9
theorem jBa {base i:Nat} {w wr w3 w5 w9 w11:World} {u2 u3 v1 v2:Value} {V1 V2 K1 K2:List FT} {L1 L2 M1 M2:List Rat} {o0 o3 o9:Obj} (hbase:base=w.heap.size) (hb:Below w.heap.size w wr) (ho1:OwnF wr base u2 i V1 L1) (ho2:OwnF wr base u3 i V2 L2) (hne:∀g,u2.ownBlock=some g→u3.ownBlock≠some g)
  (hb3:Below (wr.alloc o0).heap.size (wr.alloc o0) w3) (hg5:(w3.alloc o3).grownBy w5 u2.ownBlock) (h5:OwnF w5 base v1 (i+1) K1 M1) (hl5:v1.ownBlock=u2.ownBlock∨v1.ownBlock=some (w3.alloc o3).heap.size)
  (hb9:Below w5.heap.size w5 w9) (hg11:(w9.alloc o9).grownBy w11 u3.ownBlock) (h11:OwnF w11 base v2 (i+1) K2 M2) (hl11:v2.ownBlock=u3.ownBlock∨v2.ownBlock=some (w9.alloc o9).heap.size):
  Below w.heap.size w w11∧OwnF w11 base v1 (i+1) K1 M1∧(∀g,v1.ownBlock=some g→v2.ownBlock≠some g):=by
 subst hbase;have hm:=jBg (o9:=o9) ho1 ho2 hne hb3 hg5 hb9;have z0:=hb.size;have z3:=hb3.size;have z5:=hg5.size;have z9:=hb9.size;simp only [World.size_alloc] at z3 z5;have hw3:Below w.heap.size w (w3.alloc o3):=ja5 (ja0 (ja5 hb o0) hb3) o3;have hw5:Below w.heap.size w w5:=hw3.trans (jab hg5 hw3.size (fun k hk=>(ho1.lt k hk).1));have hw9:Below w.heap.size w (w9.alloc o9):=ja5 (ja0 hw5 hb9) o9;have hw11:Below w.heap.size w w11:=hw9.trans (jab hg11 hw9.size (fun k hk=>(ho2.lt k hk).1))
 have hd:∀g,v1.ownBlock=some g→u3.ownBlock≠some g:=fun g hg e=>by
  rcases hl5 with hl|hl
  ·exact hne g (hl ▸ hg) e
  ·rw [hl] at hg;have:=(ho2.lt g e).2;simp at hg;omega
 refine ⟨hw11,((h5.below hb9).alloc o9).kept hg11 hm.nou (fun g hg e=>hd g hg e.symm),fun g hg e=> ?_⟩;rcases hl11 with hl|hl
 ·exact hd g hg (hl ▸ e)
 ·rw [hl] at e;have:=(h5.lt g hg).2;simp at e;omega
section
variable {w:World} {A:Option Addr} {n c:Nat} {ls:List (List UInt8×List UInt8)} {los his:List Rat}
theorem jBk (hE:Env w) (hs:Pv w A n ls) (h0:0 < n) (hn:n≤256) (hl:∀p∈ls,p.1.length < 4294967281∧p.2.length < 4294967281) (hk:jar jwt ls=0)
  (hlo:los.length=n) (hhi:his.length=n) (hq:∀j,j < n→IsNum (ls.getD j ([],[])).1 (los.getD j 0)∧IsNum (ls.getD j ([],[])).2 (his.getD j 0)):
  Calls prog 69 #[.slice A n c] w fun e w'=>∃A1 c1 A2 c2,e= .returned (.tuple #[.slice A1 n c1, .slice A2 n c2, .int .i64 0])∧Qv w' A1 n los∧Qv w' A2 n his∧Below w.heap.size w w':=by
 have q0:((n:Int)==0)=false:=by rw [beq_eq_false_iff_ne];omega
 have q1:decide ((256:Int) < (n:Int))=false:=by rw [decide_eq_false_iff_not];omega
 have HE:=qh hE;have HS:=qh hs;have HN:=qh hn;have HL:=qh hl;have HK:=qh hk;have HLO:=qh hlo;have HHI:=qh hhi;have HQ:=qh hq;have H0:=qh h0;clear hE hs h0 hn hl hk hlo hhi hq;go_enter func69,ntmps69;go_wp2_with ((go_at_call 83;(with_reducible refine mo0 (jAC HK.o (HE.o.below bi) (HS.o.below bi) (by have:=HN.o;omega) HL.o) fun w1 hb1 hc1 hf1 _=> ?_)))
 go_loopw [2,3,21] (fun v1 v2 u wr=>∃(i:Nat),u= .int .i64 (i:Int)∧i≤n∧Below w.heap.size w wr∧(∃V1,OwnF wr w.heap.size v1 i V1 (los.take i))∧(∃V2,OwnF wr w.heap.size v2 i V2 (his.take i))∧(∀g,v1.ownBlock=some g→v2.ownBlock≠some g)) (fun _ _ u _=>n - (intOf u).toNat)
 case atStart=>exact ⟨0,rfl,by omega,bi,⟨[],OwnF.nil _ _⟩,⟨[],OwnF.nil _ _⟩,fun g hg=>by cases hg⟩
 case round=>
  obtain ⟨i,rfl,hin,hb,⟨V1,ho1⟩,⟨V2,ho2⟩,hne⟩:=hrel;have _:=bm hb;have HO1:=qh ho1;have HO2:=qh ho2;have HNE:=qh hne;clear ho1 ho2 hne;by_cases hi:i < n
  ·have p0:decide ((i:Int) < (n:Int))=true:=by simp;exact hi
   have hnn:=HN.o;obtain ⟨b,o,rfl,hbl,hcell⟩:=(HS.o.below hb).at_ (by omega);obtain ⟨hx,hy⟩:=hcell i hi;obtain ⟨hn1,hn2⟩:=HQ.o i hi;obtain ⟨x1,hx1⟩:∃x,(ls.getD i ([],[])).1=x:=⟨_,rfl⟩;obtain ⟨x2,hx2⟩:∃x,(ls.getD i ([],[])).2=x:=⟨_,rfl⟩;rw [hx1] at hx hn1;rw [hx2] at hy hn2;obtain ⟨r1,hr1⟩:∃r,los.getD i 0=r:=⟨_,rfl⟩;obtain ⟨r2,hr2⟩:∃r,his.getD i 0=r:=⟨_,rfl⟩;rw [hr1] at hn1;rw [hr2] at hn2;have HN1:=qh hn1;have HN2:=qh hn2;have HT1:Hd (los.take i++[r1]=los.take (i+1)):=qh (jA2 (by rw [HLO.o];exact hi) hr1);have HT2:Hd (his.take i++[r2]=his.take (i+1)):=qh (jA2 (by rw [HHI.o];exact hi) hr2);have HI:=qh hi;clear hcell hn1 hn2 hx1 hx2 hr1 hr2 hi;go_upto_region 11 with (fail)
   have s01:(wr.alloc (.cells #[.string ⟨x1.toArray⟩, .string ⟨x2.toArray⟩] 52)).cell? ⟨wr.heap.size,0,none⟩=some (bs x1):=by simp
   have s02:(wr.alloc (.cells #[.string ⟨x1.toArray⟩, .string ⟨x2.toArray⟩] 52)).cell? ⟨wr.heap.size,1,none⟩=some (bs x2):=by simp
   refine ja1 (fun w'=>w'.cell? ⟨wr.heap.size,0,none⟩=some (bs x1)∧w'.cell? ⟨wr.heap.size,1,none⟩=some (bs x2)) [] (by kernel_rfl) ?_;refine tk 0 (u2) [5] rfl (by kernel_rfl) pk (by rfl) ?_ ⟨s01,s02⟩ ?_
   ·intro w' hS';obtain ⟨hS1,hS2⟩:=hS';go_simp
   simp only [ppq];refine tk 1 (.pointer (some ⟨wr.heap.size,0,none⟩)) [2] rfl (by kernel_rfl) pk (by rfl) ?_ ⟨s01,s02⟩ ?_
   ·intro w' hS';obtain ⟨hS1,hS2⟩:=hS';go_simp
   simp only [ppq];refine tk 2 (bs x1) [3] rfl (by kernel_rfl) pk (by rfl) ?_ ⟨s01,s02⟩ ?_
   ·intro w' hS';obtain ⟨hS1,hS2⟩:=hS';go_simp
   simp only [ppq];refine tk 6 (u3) [11] rfl (by kernel_rfl) pk (by rfl) ?_ ⟨s01,s02⟩ ?_
   ·intro w' hS';obtain ⟨hS1,hS2⟩:=hS';go_simp
   simp only [ppq];refine tk 7 (.pointer (some ⟨wr.heap.size,1,none⟩)) [8] rfl (by kernel_rfl) pk (by rfl) ?_ ⟨s01,s02⟩ ?_
   ·intro w' hS';obtain ⟨hS1,hS2⟩:=hS';go_simp
   simp only [ppq];refine tk 8 (bs x2) [9] rfl (by kernel_rfl) pk (by rfl) ?_ ⟨s01,s02⟩ ?_
   ·intro w' hS';obtain ⟨hS1,hS2⟩:=hS';go_simp
   simp only [ppq];refine ja4 (rs:=[3]) (by kernel_rfl) (by simp) (AllT.cons rfl (fun K hK=> ?_) AllT.nil);go_simp;go_wp2_with (go_at_call 36;(with_reducible refine mf0 (jaz HN1.o (HE.o.below bi)) fun w3 s3 A3 n3 c3 t3 B3 m3 d3 hr3 hq3 hb3 hc3 hf3 _=> ?_))
   have hb3:=jzT hb3;have s31:=ja9 hb3 s01;have s32:=ja9 hb3 s02;refine hK.out _ _ (fun _=>⟨s31,s32⟩) ?_;clear hK K;refine ja4 (rs:=[4]) (by kernel_rfl) (by simp) (AllT.cons rfl (fun K hK=> ?_) AllT.nil);go_simp;have s41:=jz2 s31 (.cells #[.int .i64 s3, .slice A3 n3 c3, .int .i64 t3, .slice B3 m3 d3] 82);have s42:=jz2 s32 (.cells #[.int .i64 s3, .slice A3 n3 c3, .int .i64 t3, .slice B3 m3 d3] 82);refine hK.out _ _ (fun _=>⟨s41,s42⟩) ?_;clear hK K;refine ja4 (rs:=[5]) (by kernel_rfl) (by simp) (AllT.cons rfl (fun K hK=> ?_) AllT.nil);rw [if_pos (by rfl)];refine jkT (base:=w.heap.size) (n:=i) (x:=r1) (b:=w3.heap.size) (c:=1) (qs:=los.take i) (v:=u2) (q:=((s3,A3,n3,c3),(t3,B3,m3,d3))) (.tmp 25) (.tmp 29) rfl rfl rfl rfl (((HO1.o.alloc _).below hb3).alloc _) (by have:=HN.o;omega) (by have:=hb.size;have:=hb3.size;simp at this;simp;omega) ⟨hr3.below (bA bR),hq3.below (bA bR)⟩ (by simp) (by simp) (by simp) (by simp) ?_;intro v5 w5 ho5 hg5 hl5;have s51:=hg5.cell s41 (jzB HO1.o (Nat.le_refl _));have s52:=hg5.cell s42 (jzB HO1.o (Nat.le_refl _));refine hK.out _ _ (fun _=>⟨s51,s52⟩) ?_;clear hK K;simp only [ppq];have hb5:Below w.heap.size w w5:=Below.trans (ja5 (ja0 (ja5 hb _) hb3) _) (jab hg5 (by have:=hb.size;have:=hb3.size;simp at this;simp;omega) (fun k hk=>(HO1.o.lt k hk).1));refine ja4 (rs:=[9]) (by kernel_rfl) (by simp) (AllT.cons rfl (fun K hK=> ?_) AllT.nil);go_simp;go_wp2_with (go_at_call 36;(with_reducible refine mf0 (jaz HN2.o (HE.o.below hb5)) fun w9 s9 A9 n9 c9 t9 B9 m9 d9 hr9 hq9 hb9 hc9 hf9 _=> ?_))
   refine hK.out _ _ (fun _=>⟨ja9 hb9 s51,ja9 hb9 s52⟩) ?_;clear hK K;refine ja4 (rs:=[10]) (by kernel_rfl) (by simp) (AllT.cons rfl (fun K hK=> ?_) AllT.nil);go_simp;have s101:=jz2 (ja9 hb9 s51) (.cells #[.int .i64 s9, .slice A9 n9 c9, .int .i64 t9, .slice B9 m9 d9] 82);have s102:=jz2 (ja9 hb9 s52) (.cells #[.int .i64 s9, .slice A9 n9 c9, .int .i64 t9, .slice B9 m9 d9] 82);refine hK.out _ _ (fun _=>⟨s101,s102⟩) ?_;clear hK K;refine ja4 (rs:=[11]) (by kernel_rfl) (by simp) (AllT.cons rfl (fun K hK=> ?_) AllT.nil);rw [if_pos (by rfl)];refine jkT (base:=w.heap.size) (n:=i) (x:=r2) (b:=w9.heap.size) (c:=1) (qs:=his.take i) (v:=u3) (q:=((s9,A9,n9,c9),(t9,B9,m9,d9))) (.tmp 31) (.tmp 35) rfl rfl rfl rfl (jBg HO1.o HO2.o HNE.o hb3 hg5 hb9) (by have:=HN.o;omega) (by have:=hb5.size;have:=hb9.size;simp;omega) ⟨hr9.below (bA bR),hq9.below (bA bR)⟩ (by simp) (by simp) (by simp) (by simp) ?_;intro v11 w11 ho11 hg11 hl11;have s111:=hg11.cell s101 (jzB HO2.o (Nat.le_refl _));have s112:=hg11.cell s102 (jzB HO2.o (Nat.le_refl _));refine hK.out _ _ (fun _=>⟨s111,s112⟩) ?_;have hR:=jBa rfl hb HO1.o HO2.o HNE.o hb3 hg5 ho5 hl5 hb9 hg11 ho11 hl11;clear hK K;simp only [ppq];refine ja4 (rs:=[12]) (by kernel_rfl) (by simp) (AllT.cons rfl (fun K hK=> ?_) AllT.nil);go_simp;refine hK.out _ _ (fun _=>⟨s111,s112⟩) ?_;clear hK K;refine ja4 (rs:=[13]) (by kernel_rfl) (by simp) (AllT.cons rfl (fun K hK=> ?_) AllT.nil);go_simp;refine hK.out _ _ (fun _=>⟨s111,s112⟩) ?_;clear hK K;refine ja2 (by kernel_rfl) ?_ _;go_wp2;exact ⟨⟨i+1,by simp,HI.o,hR.1,⟨_,by rw [←HT1.o];exact hR.2.1⟩,⟨_,by rw [←HT2.o];exact ho11⟩,hR.2.2⟩,by have:=HI.o;simp [intOf];omega⟩
  ·have p0:decide (i < n)=false:=by simp;omega
   have e:i=n:=by omega
   subst e;clear hi hin;go_wp2;go_ret3;have h1:=HO1.o;have h2:=HO2.o;rw [List.take_of_length_le (by rw [HLO.o];omega)] at h1;rw [List.take_of_length_le (by rw [HHI.o];omega)] at h2;obtain ⟨A1,c1,rfl,hq1⟩:=OwnF.qv h1 H0.o;obtain ⟨A2,c2,rfl,hq2⟩:=OwnF.qv h2 H0.o;exact ⟨A1,c1,A2,c2,rfl,hq1,hq2,hb⟩
end

structure SpIn (w:World) (A:Option Addr) (n:Nat) (ls:List (List UInt8×List UInt8)) (los his:List Rat):Prop where
 view:Pv w A n ls
 pos:0 < n
 le:n≤256
 len:∀p∈ls,p.1.length < 4294967281∧p.2.length < 4294967281
 ok:jar jwt ls=0
 lo:los.length=n
 hi:his.length=n
 num:∀j,j < n→IsNum (ls.getD j ([],[])).1 (los.getD j 0)∧IsNum (ls.getD j ([],[])).2 (his.getD j 0)∧Sz 2 (los.getD j 0)∧Sz 2 (his.getD j 0)
theorem SpIn.below {w w':World} {A:Option Addr} {n:Nat} {ls:List (List UInt8×List UInt8)} {los his:List Rat} (h:SpIn w A n ls los his) (hb:Below w.heap.size w w'):SpIn w' A n ls los his:=
 ⟨h.view.below hb,h.pos,h.le,h.len,h.ok,h.lo,h.hi,h.num⟩
theorem jBp {w:World} {A:Option Addr} {n c:Nat} {ls:List (List UInt8×List UInt8)} {los his:List Rat} (hE:Env w) (h:SpIn w A n ls los his):
  Calls prog 69 #[.slice A n c] w fun e w'=>∃A1 c1 A2 c2,e= .returned (.tuple #[.slice A1 n c1, .slice A2 n c2, .int .i64 0])∧Qv w' A1 n los∧Qv w' A2 n his∧Below w.heap.size w w':=
 jBk hE h.view h.pos h.le h.len h.ok h.lo h.hi (fun j hj=>⟨(h.num j hj).1,(h.num j hj).2.1⟩)

section
variable {w:World} {A:Option Addr} {n c:Nat} {ls:List (List UInt8×List UInt8)} {los his:List Rat}
end

section
variable {w:World}
end
section
variable {w:World} {kind step:List UInt8}
end

theorem jyW {w w':World} {b:Nat} (hb:Below w.heap.size w w') (hz:b < w.heap.size) (h:∀o,w.frozen? ⟨b,o,none⟩=false) (o:Nat):w'.frozen? ⟨b,o,none⟩=false:=by rw [(jhL hb).2 b o hz];exact h o
theorem jxf (n:Nat):n < n+1+1:=by omega
section
variable {w:World} {h:Int} {o:Bool}
end
theorem jna (y:Rat):y.floor.natAbs≤y.num.natAbs:=by
 rw [Rat.floor_def];have hd:=y.den_pos;have h:=Int.natAbs_ediv_le_natAbs y.num (y.den:Int);exact h
theorem Sz.floor {p:Nat} {y:Rat} (h:Sz p y):Sz p (y.floor:Rat):=
 Sz.int (Nat.le_trans (jna y) h.num)

def jyY (qs:List Rat) (ws:List Int):Nat→Rat
 | 0=>0
 | i+1=>jyY qs ws i+qs.getD i 0*((ws.getD i 0:Int):Rat)
theorem jAo {p n:Nat} {qs:List Rat} {ws:List Int} (hq:∀j,j < n→Sz p (qs.getD j 0)) (hw:∀j,j < n→R64 (ws.getD j 0)):∀i,i≤n→Sz (i*(p+2)+1) (jyY qs ws i)
 | 0,_=>by rw [jyY];exact (jej (a:=0) ⟨by decide,by decide⟩).mono (by omega)
 | i+1,h=>by
   rw [jyY];exact ((jAo hq hw i (by omega)).add ((hq i h).mul (jej (hw i h)))).mono (by rw [Nat.add_mul];omega)
theorem jyV {w:World} {a:Int} (h:SmallQ (a:Rat)):Calls prog 40 #[.int .i64 a] w fun e w'=>e= .returned (fq (a:Rat))∧Below w.heap.size w w':=
 (jes rfl ⟨by have:=h.lo;simp at this;omega,by have:=h.hi;simp at this;omega⟩).mono fun _ _ k=>h.post k
theorem jyX {a:Int} (h0: -9223372036854775808 < a) (h1:a < 9223372036854775808):SmallQ (a:Rat):=⟨by simpa using h0,by simpa using h1,by simp⟩
section
variable {w:World} {A B:Option Addr} {n c d p:Nat} {qs:List Rat} {ws:List Int} {s:Int}
theorem jAq {z:Rat} (h:Qv w A n qs) (hw:Iv w B n ws) (hn:n≤256) (hs:∀j,j < n→Sz p (qs.getD j 0)) (hp:p≤100) (hws:∀j,j < n→0≤ws.getD j 0∧ws.getD j 0≤999999999) (hs0:0 < s) (hs1:s < 9223372036854775808)
  (hz:jyY qs ws n / (s:Rat)=z):
  Calls prog 72 #[.slice A n c, .slice B n d, .int .i64 s] w (jaa z w):=by
 have HQ:=qh h;have HW:=qh hw;have HN:=qh hn;have HS:=qh hs;have HP:=qh hp;have HWS:=qh hws;have HZ:=qh hz;have HS0:=qh hs0;have H0:Hd (SmallQ ((0:Int):Rat)):=qh (jyX (by decide) (by decide));have HSS:Hd (SmallQ (s:Rat)):=qh (jyX (by omega) hs1);have HSZ:Hd (∀i,i≤n→Sz (i*(p+2)+1) (jyY qs ws i)):=qh (jAo hs (fun j hj=>by have:=hws j hj;exact ⟨by omega,by omega⟩))
 have HNP:Hd (∀i,i≤n→i*(p+2)+1≤27000):=qh (fun i hi=>by
  have:i*(p+2)≤256*102:=Nat.mul_le_mul (by omega) (by omega)
  omega)
 clear h hw hn hs hp hws hz hs0 hs1;go_enter func72,ntmps72;go_upto_region 2 with ((go_at_call 40;(with_reducible refine mo1 w (jyV H0.o) (by go_size) fun w1 hb1 hc1 hf1 z1_0 _=> ?_)))
 have hg1:Below w.heap.size w w1:=bi;have hle:w.heap.size≤w1.heap.size:=hg1.size;have hlt:w.heap.size < w1.heap.size:=by have:=hb1.size;simp at this;omega
 have hne:=nl hlt;go_wp2_with (fail)
 go_loopw [13] (fun u wr=>∃(i:Nat) (sm:Int) (Am:Option Addr) (nm cm:Nat) (tm:Int) (Bm:Option Addr) (mm dm:Nat),u= .int .i64 (i:Int)∧Below w.heap.size w wr∧i≤n∧w.heap.size < wr.heap.size∧w1.heap.size < wr.heap.size
   ∧wr.cell? ⟨w.heap.size,0,none⟩=some (.int .i64 0)∧wr.cell? ⟨w.heap.size,1,none⟩=some (.slice none 0 0)∧wr.cell? ⟨w.heap.size,2,none⟩=some (.int .i64 0)∧wr.cell? ⟨w.heap.size,3,none⟩=some (.slice none 0 0)
   ∧wr.cell? ⟨w1.heap.size,0,none⟩=some (.int .i64 sm)∧wr.cell? ⟨w1.heap.size,1,none⟩=some (.slice Am nm cm)∧wr.cell? ⟨w1.heap.size,2,none⟩=some (.int .i64 tm)∧wr.cell? ⟨w1.heap.size,3,none⟩=some (.slice Bm mm dm)
   ∧(∀o,wr.frozen? ⟨w.heap.size,o,none⟩=false)∧(∀o,wr.frozen? ⟨w1.heap.size,o,none⟩=false)
   ∧RepF wr sm Am nm cm tm Bm mm dm (jyY qs ws i)) (fun u _=>n - (intOf u).toNat)
 case atStart=>
  exact ⟨0,0,none,0,0,1,none,0,0,rfl,bi,Nat.zero_le _,by simp;omega,by simp,by simp [go_sem,hc1,z1_0,hle,hlt,hne,nls hlt],by simp [go_sem,hc1,z1_0,hle,hlt,hne,nls hlt],by simp [go_sem,hc1,z1_0,hle,hlt,hne,nls hlt],by simp [go_sem,hc1,z1_0,hle,hlt,hne,nls hlt],by simp [go_sem],by simp [go_sem],by simp [go_sem],by simp [go_sem],by intro o;simp [go_sem,hf1,z1_0,hle,hlt,hne],by intro o;simp [go_sem],H0.o.rep _⟩
 case round=>
  obtain ⟨i,sm,Am,nm,cm,tm,Bm,mm,dm,rfl,hb,hin,hsz0,hszg,e0,e1,e2,e3,e4,e5,e6,e7,f0,f1,hrm⟩:=hrel;have _:=bm hb;have HM:=qh hrm;clear hrm;by_cases hi:i < n
  ·have q1:decide ((i:Int) < (n:Int))=true:=by simp;exact hi
   have hnn:=HN.o;obtain ⟨b,o,rfl,hbl,hat⟩:=(HQ.o.below hb).at_ (by omega);obtain ⟨si,Ai,ni,ci,ti,Bi,mi,di,k4,k5,k6,k7,kr⟩:=(hat i hi).at_;obtain ⟨b',o',rfl,hbl',hat'⟩:=(HW.o.below hb).at_ (by omega);have k8:=hat' i hi;have HX:=qh kr;have HSI:=qh (HS.o i hi);have HWI:=qh (HWS.o i hi);have HZ1:Hd (jyY qs ws i+qs.getD i 0*((ws.getD i 0:Int):Rat)=jyY qs ws (i+1)):=qh (by rw [jyY]);have HSM:=qh (HSZ.o i hin);have HIN:=qh (HNP.o i hin);obtain ⟨x,hx⟩:∃x,qs.getD i 0=x:=⟨_,rfl⟩;obtain ⟨v,hv⟩:∃v,ws.getD i 0=v:=⟨_,rfl⟩;obtain ⟨m,hm⟩:∃m,jyY qs ws i=m:=⟨_,rfl⟩;obtain ⟨m2,hm2⟩:∃m,jyY qs ws (i+1)=m:=⟨_,rfl⟩;rw [hx] at HX HSI HZ1;rw [hv] at HWI HZ1 k8;rw [hm] at HM HZ1 HSM;rw [hm2] at HZ1;have HM2:=qh hm2;have HSV:Hd (SmallQ ((v:Int):Rat)):=qh (jyX (by have:=HWI.o;omega) (by have:=HWI.o;omega));have HI:=qh hi;clear hat hat' kr hx hv hm hm2 hi;go_upto_region 5 with (fail)
   refine ja1 (fun w'=>Below (wr.alloc (.cells #[.int .i64 si, .slice Ai ni ci, .int .i64 ti, .slice Bi mi di] 82)).heap.size (wr.alloc (.cells #[.int .i64 si, .slice Ai ni ci, .int .i64 ti, .slice Bi mi di] 82)) w') [9] (by kernel_rfl) ?_;refine tl [(0,[8],fv sm Am nm cm tm Bm mm dm),(1,[7],fv si Ai ni ci ti Bi mi di),(2,[4], .slice (some ⟨b',o',none⟩) n d),(3,[4], .int .i64 (i:Int)),(4,[5], .pointer (some ⟨b',o'+i,none⟩)),(5,[6], .int .i64 v)] [_,_,_,_,_,_] rfl (by kernel_rfl) pk5 (by intros;simp only [tyq,ppq];go_simp) bq0 ?_;simp only [tlq,ppq];refine rd1 6 (by kernel_rfl) rfl (fun K hK=> ?_);go_simp;go_wp2_with (go_at_call 40;(with_reducible refine mo0 (jyV HSV.o) fun w6 hb6 hc6 hf6 _=> ?_))
   have sS6:=qh (bst bq0 hb6);refine hK.out _ _ (fun _=>sS6.o) ?_;clear hK K;refine rd1 7 (by kernel_rfl) rfl (fun K hK=> ?_);go_simp;go_wp2_with (go_at_call 41;(with_reducible refine mf0 (jbO p 1 rfl (HX.o.below bi) (HSV.o.rep _) HSI.o HSV.o.sz (by have:=HP.o;omega)) fun w7 s7 A7 n7 c7 t7 B7 m7 d7 hr7 hq7 hb7 hc7 hf7 _=> ?_))
   have sS7:=qh (bst sS6.o hb7);refine hK.out _ _ (fun _=>sS7.o) ?_;clear hK K;refine rd1 8 (by kernel_rfl) rfl (fun K hK=> ?_);go_simp;go_wp2_with ((go_at_call 104;(with_reducible refine mf0 (jo7 (i*(p+2)+1) (p+1) HZ1.o (HM.o.below bi) ⟨hr7,hq7⟩ HSM.o (HSI.o.mul HSV.o.sz) (by have:=HP.o;have:=HIN.o;omega)) fun w8 s8 A8 n8 c8 t8 B8 m8 d8 hr8 hq8 hb8 hc8 hf8 _=> ?_));(first|have y8_0:=szl (k:=w1.heap.size) hb8 (by first|go_size|fail)|have y8_0:=Nat.one_pos);(first|have y8_1:=szl (k:=w.heap.size) hb8 (by first|go_size|fail)|have y8_1:=Nat.one_pos))
   have sS8:=qh (bst sS7.o hb8);refine hK.out _ _ (fun _=>sS8.o) ?_;clear hK K;have bW8:Below wr.heap.size wr w8:=bi;have k80:=ja9 bW8 e0;have k81:=ja9 bW8 e1;have k82:=ja9 bW8 e2;have k83:=ja9 bW8 e3;have k84:=ja9 bW8 e4;have k85:=ja9 bW8 e5;have k86:=ja9 bW8 e6;have k87:=ja9 bW8 e7;have kf0:∀o,w8.frozen? ⟨w.heap.size,o,none⟩=false:=fun o=>(jyW bW8 hsz0 f0) o
   have kf1:∀o,w8.frozen? ⟨w1.heap.size,o,none⟩=false:=fun o=>(jyW bW8 hszg f1) o
   have z80:=Nat.lt_of_lt_of_le hsz0 bW8.size;have z81:=Nat.lt_of_lt_of_le hszg bW8.size;refine rd1 9 (by kernel_rfl) rfl (fun K hK=> ?_);go_simp;refine hK.out _ _ (fun h=>(h (by decide)).elim) ?_;clear hK K;refine ja2 (by kernel_rfl) ?_ _;go_wp2;exact ⟨⟨i+1,s8,A8,n8,c8,t8,B8,m8,d8,by simp,bi,HI.o,by simp;exact z80,by simp;exact z81,by simp [go_sem,k80,k81,k82,k83,k84,k85,k86,k87,hne],by simp [go_sem,k80,k81,k82,k83,k84,k85,k86,k87,hne],by simp [go_sem,k80,k81,k82,k83,k84,k85,k86,k87,hne],by simp [go_sem,k80,k81,k82,k83,k84,k85,k86,k87,hne],by simp [go_sem,k80,k81,k82,k83,k84,k85,k86,k87,hne],by simp [go_sem,k80,k81,k82,k83,k84,k85,k86,k87,hne],by simp [go_sem,k80,k81,k82,k83,k84,k85,k86,k87,hne],by simp [go_sem,k80,k81,k82,k83,k84,k85,k86,k87,hne],by intro o;simp [go_sem,kf0],by intro o;simp [go_sem,kf1],by rw [HM2.o];exact (by constructor <;> (with_reducible repeat first|assumption|apply rZ|refine rP ?_ rfl (by simp [go_sem,k84,k85,k86,k87])))⟩,by have:=HI.o;simp [intOf];omega⟩
  ·have q1:decide (i < n)=false:=by simp;omega
   have e:i=n:=by omega
   subst e;have HIN:=qh (HNP.o i hin);clear hi hin;go_upto_region 7 with (fail)
   refine ja1 (fun w'=>Below wr.heap.size wr w') [4] (by kernel_rfl) ?_;refine tl [(0,[3],fv sm Am nm cm tm Bm mm dm),(1,[2], .int .i64 s)] [_,_] rfl (by kernel_rfl) pk5 (by intros;simp only [tyq,ppq];go_simp) bq0 ?_;simp only [tlq,ppq];refine rd1 2 (by kernel_rfl) rfl (fun K hK=> ?_);go_simp;go_wp2_with (go_at_call 40;(with_reducible refine mo0 (jyV HSS.o) fun w2 hb2 hc2 hf2 _=> ?_))
   have sS2:=qh (bst bq0 hb2);refine hK.out _ _ (fun _=>sS2.o) ?_;clear hK K;refine rd1 3 (by kernel_rfl) rfl (fun K hK=> ?_);go_simp;go_wp2_with (go_at_call 43;(with_reducible refine mf0 (jeB (i*(p+2)+1) 1 HZ.o (HM.o.below bi) (HSS.o.rep _) (HSZ.o i (Nat.le_refl _)) HSS.o.sz (by have:=HIN.o;omega) (by have:=HS0.o;simp;omega)) fun w3 s3 A3 n3 c3 t3 B3 m3 d3 hr3 hq3 hb3 hc3 hf3 _=> ?_))
   have sS3:=qh (bst sS2.o hb3);refine hK.out _ _ (fun _=>sS3.o) ?_;clear hK K;have bW3:Below wr.heap.size wr w3:=bi;have k30:=ja9 bW3 e0;have k31:=ja9 bW3 e1;have k32:=ja9 bW3 e2;have k33:=ja9 bW3 e3;have kf0:∀o,w3.frozen? ⟨w.heap.size,o,none⟩=false:=fun o=>(jyW bW3 hsz0 f0) o
   refine rd1 4 (by kernel_rfl) rfl (fun K hK=> ?_);go_simp;refine hK.out _ _ (fun h=>(h (by decide)).elim) ?_;clear hK K;refine ja2 (by kernel_rfl) ?_ _;go_wp2;exact bodyPost_ret (v:= .agg #[.int .i64 (s3), .slice (A3) (n3) (c3), .int .i64 (t3), .slice (B3) (m3) (d3)]) (by simp [results,results72,go_sem,k30,k31,k32,k33,kf0]) rfl (jan rfl (by constructor <;> (with_reducible repeat first|assumption|apply rZ|refine rP ?_ rfl (by simp [go_sem,k30,k31,k32,k33]))) bi)
end

def jtr (a b:List UInt8):Bool:=Op.bytesLess a b || a==b
@[go_sem] theorem juD (t : TypeId) (x y : List UInt8) : binOp .leq t (.string ⟨x.toArray⟩) (.string ⟨y.toArray⟩) = pure (.bool (jtr x y)) := by
  simp [binOp,Op.stringOp,jtr,Lib.toList_data]
def jAS (p:Option (List UInt8)) (x:List UInt8):Bool:=match p with
 | some q=>jtr x q
 | none=>false
noncomputable def jBm (s:Rat) (p:Option (List UInt8)):List (List UInt8×List UInt8)→Int
 | []=>if s=1 then 0 else 12
 | x::r=>if jyT x.1=false then 8 else if jAS p x.1=true then 11 else if chk x.2≠0 then chk x.2 else if numQ x.2≤0 then 12 else jBm (s+numQ x.2) (some x.1) r
noncomputable def jyU (ls:List (List UInt8×List UInt8)):Int:=if ls.length=0 then 2 else if 64 < ls.length then 5 else jBm 0 none ls
def jzn (ls:List (List UInt8×List UInt8)) (i:Nat):Option (List UInt8):=if i=0 then none else some (ls.getD (i - 1) ([],[])).1
theorem jzu {w:World} {s t u v:Int} {A B C D:Option Addr} {n c m d i k j l:Nat} {x y:Rat} {z:Bool} (p q:Nat) (hz:decide (x=y)=z) (h:RepF w s A n c t B m d x) (h':RepF w u C i k v D j l y) (hs:Sz p x) (hs':Sz q y) (hpq:p+q < 100000):
  Calls prog 210 #[fv s A n c t B m d,fv u C i k v D j l] w fun e w'=>e= .returned (.bool z)∧Below w.heap.size w w':=hz ▸ jAN h h' hs hs' hpq
theorem jC8 {x:Rat} (h:x≤0):sgn x.num≤0:=by
 have:¬0 < x.num:=fun h1=>Rat.not_lt.2 h (by rw [Rat.lt_iff];simpa using h1)
 unfold sgn;rw [if_neg this];split <;> omega
theorem jBO {x:Rat} (h:¬x≤0):¬sgn x.num≤0:=by
 have h1:=Rat.not_le.1 h;rw [Rat.lt_iff] at h1;have h2:0 < x.num:=by simpa using h1
 unfold sgn;rw [if_neg (by omega),if_pos h2];omega
theorem jBT {w w':World} {b o:Nat} (h:Below w.heap.size w w') (hb:b < w.heap.size):w'.frozen? ⟨b,o,none⟩=w.frozen? ⟨b,o,none⟩:=by
 simp only [World.frozen?,h.block b hb]
section
variable {w:World} {A:Option Addr} {n c:Nat} {ls:List (List UInt8×List UInt8)}
theorem jAg:Calls prog 174 #[.slice A 0 c] w fun e w'=>e= .returned (.int .i64 2)∧Below w.heap.size w w':=by
 go_enter func174,ntmps174;go_wp2;go_ret;exact ⟨rfl,bi⟩
theorem jAd (hn:64 < n):Calls prog 174 #[.slice A n c] w fun e w'=>e= .returned (.int .i64 5)∧Below w.heap.size w w':=by
 have q0:((n:Int)==0)=false:=by rw [beq_eq_false_iff_ne];omega
 have q1:decide ((64:Int) < (n:Int))=true:=by rw [decide_eq_true_iff];omega
 clear hn;go_enter func174,ntmps174;go_wp2;go_ret;exact ⟨rfl,bi⟩
theorem jAM {k:Int} (hE:Env w) (hv:Pv w A n ls) (h0:0 < n) (hn:n≤64) (hl:∀p∈ls,p.1.length < 4294967281∧p.2.length < 4294967281) (hk:jBm 0 none ls=k):
  Calls prog 174 #[.slice A n c] w fun e w'=>e= .returned (.int .i64 k)∧Below w.heap.size w w':=by
 have q0:((n:Int)==0)=false:=by rw [beq_eq_false_iff_ne];omega
 have q1:decide ((64:Int) < (n:Int))=false:=by rw [decide_eq_false_iff_not];omega
 have HE:=qh hE;have HV:=qh hv;have HN:=qh hn;have HK:=qh hk
 have HL:Hd (∀i,i < n→(ls.getD i ([],[])).2.length < 4294967281):=qh (fun i hi=>by
  have hil:i < ls.length:=by rw [hv.len];exact hi
  rw [List.getD_eq_getElem?_getD,List.getElem?_eq_getElem hil];exact (hl _ (List.getElem_mem hil)).2)
 have H0:Hd (((0:Int):Rat)=0):=qh rfl;have HR0:Hd (R64 0):=qh ⟨by decide,by decide⟩;clear hE hv h0 hn hl hk;go_enter func174,ntmps174;go_wp2_with ((go_at_call 40;(with_reducible refine mf0 (jes H0.o HR0.o) fun w1 s1 A1 n1 c1 t1 B1 m1 d1 hr1 hq1 hb1 hc1 hf1 _=> ?_)))
 go_loopw [17] (fun u wr=>∃(i:Nat) (s:Rat) (ss:Int) (As:Option Addr) (ns cs:Nat) (ts:Int) (Bs:Option Addr) (ms ds:Nat),u= .int .i64 (i:Int)∧Below w.heap.size w wr∧i≤n∧w1.heap.size < wr.heap.size
   ∧wr.cell? ⟨w1.heap.size,0,none⟩=some (.int .i64 ss)∧wr.cell? ⟨w1.heap.size,1,none⟩=some (.slice As ns cs)∧wr.cell? ⟨w1.heap.size,2,none⟩=some (.int .i64 ts)∧wr.cell? ⟨w1.heap.size,3,none⟩=some (.slice Bs ms ds)
   ∧(∀o,wr.frozen? ⟨w1.heap.size,o,none⟩=false)
   ∧RepF wr ss As ns cs ts Bs ms ds s∧Sz (i*601+1) s∧jBm s (jzn ls i) (ls.drop i)=k) (fun u _=>n - (intOf u).toNat)
 case atStart=>
  exact ⟨0,0,s1,A1,n1,c1,t1,B1,m1,d1,rfl,bi,by omega,by simp,by simp [go_sem],by simp [go_sem],by simp [go_sem],by simp [go_sem],by intro o;simp [go_sem],(by constructor <;> (with_reducible repeat first|assumption|apply rZ|refine rP ?_ rfl (by simp [go_sem,hc1]))),by have:=(jej HR0.o);rw [H0.o] at this;exact this.mono (by omega),HK.o⟩
 case round=>
  obtain ⟨i,s,ss,As,ns,cs,ts,Bs,ms,ds,rfl,hb,hin,hsz,e0,e1,e2,e3,f0,hrs,hss,hc⟩:=hrel;have _:=bm hb;have HM:=qh hrs;have HSS:=qh hss;have HC:=qh hc;clear hrs hss hc;by_cases hi:i < n
  ·have p0:decide ((i:Int) < (n:Int))=true:=by simp;exact hi
   have hnn:=HN.o;obtain ⟨b,o,rfl,hbl,hcell⟩:=(HV.o.below hb).at_ (by omega);obtain ⟨hx,hy⟩:=hcell i hi;have hil:i < ls.length:=by rw [HV.o.len];exact hi
   have HLI:=qh (HL.o i hi);have hc:=HC.o;rw [jd5 (d:=([],[])) hil,jBm] at hc;have hnext:jzn ls (i+1)=some (ls.getD i ([],[])).1:=by rw [jzn,if_neg (by omega)];rfl
   obtain ⟨x1,hx1⟩:∃x,(ls.getD i ([],[])).1=x:=⟨_,rfl⟩;obtain ⟨x2,hx2⟩:∃x,(ls.getD i ([],[])).2=x:=⟨_,rfl⟩;rw [hx1,hx2] at hc;rw [hx1] at hx hnext;rw [hx2] at hy HLI;have HNX:=qh hnext;have HI:=qh hi;clear hil hx1 hx2 hnext HC;cases hg:jyT x1 with
   | false=>
     rw [hg,if_pos rfl] at hc;subst hc;have HG:=qh hg;clear hg hi hcell;go_wp2_with (go_at_call 115;(with_reducible refine mo0 (jyM HG.o) fun w2 hb2 hc2 hf2 _=> ?_))
     go_ret;exact ⟨rfl,bi⟩
   | true=>
     rw [hg,if_neg (by simp)] at hc;have HG:=qh hg;clear hg;cases hp:jAS (jzn ls i) x1 with
     | true=>
       rw [hp,if_pos rfl] at hc;subst hc
       obtain ⟨i',rfl⟩:∃i',i=i'+1:=by
        cases i with
        | zero=>simp [jzn,jAS] at hp
        | succ i'=>exact ⟨i',rfl⟩
       rw [jzn,if_neg (by omega),Nat.add_sub_cancel] at hp;obtain ⟨hz,_⟩:=hcell i' (by omega);obtain ⟨y1,hy1⟩:∃y,(ls.getD i' ([],[])).1=y:=⟨_,rfl⟩;rw [hy1] at hz hp;have q2:jtr x1 y1=true:=hp;have q4:(i':Int) < (n:Int):=by omega
       have q5:IntKind.i64.wrap (i':Int)=(i':Int):=by simp [IntKind.wrap,IntKind.bits,IntKind.signed];omega
       have q3:decide ((0:Int) < (i':Int)+1)=true:=by rw [decide_eq_true_iff];omega
       have q8:(i':Int)+1 < (n:Int):=by omega
       have q7:decide ((i':Int)+1 < (n:Int))=true:=by rw [decide_eq_true_iff];omega
       clear hi hcell hp hy1;go_upto_region 11 with (go_at_call 115;(with_reducible refine mo0 (jyM HG.o) fun w2 hb2 hc2 hf2 _=> ?_))
       go_quiet (fail)
       go_wp2;go_ret;exact ⟨rfl,bi⟩
     | false=>
       rw [hp,if_neg (by simp)] at hc;have HP:=qh hp;have HC:=qh hc;have HCE:=qh hcell;clear hi hp hc hcell;go_upto_region 11 with (go_at_call 115;(with_reducible refine mo0 (jyM HG.o) fun w2 hb2 hc2 hf2 _=> ?_))
       go_cut [38] (fun u wx=>u= .bool false∧Below w2.heap.size w2 wx)
       case first=>
        cases i with
        | zero=>
          go_quiet (fail)
          go_wp2;go_meet;exact ⟨rfl,bi⟩
        | succ i'=>
          have hin':=HI.o;have hp:=HP.o;rw [jzn,if_neg (by omega),Nat.add_sub_cancel] at hp;obtain ⟨hz,_⟩:=HCE.o i' (by omega);obtain ⟨y1,hy1⟩:∃y,(ls.getD i' ([],[])).1=y:=⟨_,rfl⟩;rw [hy1] at hz hp;have q2:jtr x1 y1=false:=hp;have q4:(i':Int) < (n:Int):=by omega
          have q5:IntKind.i64.wrap (i':Int)=(i':Int):=by simp [IntKind.wrap,IntKind.bits,IntKind.signed];omega
          have q3:decide ((0:Int) < (i':Int)+1)=true:=by rw [decide_eq_true_iff];omega
          clear hp hy1
          go_quiet (fail)
          go_wp2;go_meet;exact ⟨rfl,bi⟩
       case rest=>
        obtain ⟨rfl,hbc⟩:=hcut;have _:=bm hbc;clear HCE HP hc2 hf2;have hbW:Below w.heap.size w wc:=ja0 (ja0 (ja5 hb _) hb2) hbc;have hszc:w1.heap.size < wc.heap.size:=Nat.lt_of_lt_of_le hsz (Nat.le_trans (by have:=hb2.size;simp at this;omega) hbc.size);have hbz:wr.heap.size < wc.heap.size:=Nat.lt_of_lt_of_le (by have:=hb2.size;simp at this;omega) hbc.size;have hbr:Below (wr.alloc (.cells #[bs x1,bs x2] 75)).heap.size (wr.alloc (.cells #[bs x1,bs x2] 75)) wc:=ja0 hb2 hbc;have j0:wc.cell? ⟨wr.heap.size,0,none⟩=some (bs x1):=ja9 hbr (by simp);have j1:wc.cell? ⟨wr.heap.size,1,none⟩=some (bs x2):=ja9 hbr (by simp);have hbw2:Below wr.heap.size wr wc:=ja0 (ja5 (Below.refl _ _) _) hbr;have g0:=ja9 hbw2 e0;have g1:=ja9 hbw2 e1;have g2:=ja9 hbw2 e2;have g3:=ja9 hbw2 e3;have gf:∀o,wc.frozen? ⟨w1.heap.size,o,none⟩=false:=fun o=>(jBT hbw2 hsz).trans (f0 o)
        have HM2:=qh (HM.o.below hbw2);have HEc:=qh (HE.o.below hbW);obtain ⟨B5,hB5⟩:∃B,wr.heap.size=B:=⟨_,rfl⟩;rw [hB5] at hbz j0 j1;simp only [hB5];clear hb hb2 hbc hbr hbw2 e0 e1 e2 e3 f0 HM hB5;by_cases hk2:chk x2=0
        ·have hc:=HC.o;rw [if_neg (by simpa using hk2)] at hc;have HKZ:=qh hk2;have hxn:=jjb hk2;obtain ⟨x,hxv⟩:∃x,numQ x2=x:=⟨_,rfl⟩;rw [hxv] at hc hxn;have HX:=qh hxn;have HXS:=qh hxn.sz;clear hk2 hxn hxv HC;obtain ⟨sg,hsg⟩:∃z,sgn x.num=z:=⟨_,rfl⟩;have HSG:=qh hsg;by_cases h0:x≤0
         ·rw [if_pos h0] at hc;subst hc
          have q9:decide (sg≤0)=true:=by
           rw [decide_eq_true_iff,←hsg];exact jC8 h0
          clear h0 hsg
          go_wp2_with (first
           | (go_at_call 110;(with_reducible refine mo0 (jln HKZ.o (HEc.o.below bi) HLI.o) fun w3 hb3 hc3 hf3 _=> ?_))
           | (go_at_call 36;(with_reducible refine mf0 (jaz HX.o (HEc.o.below bi)) fun w4 s4 A4 n4 c4 t4 B4 m4 d4 hr4 hq4 hb4 hc4 hf4 _=> ?_))
           | (go_at_call 111;(with_reducible refine mo0 (jg2 HSG.o (by constructor <;> (with_reducible repeat first|assumption|apply rZ|refine rP ?_ rfl (by simp [go_sem,hc4])))) fun w5 hb5 hc5 hf5 _=> ?_)))
          go_ret;exact ⟨rfl,bi⟩
         ·rw [if_neg h0] at hc
          have q9:decide (sg≤0)=false:=by
           rw [decide_eq_false_iff_not,←hsg];exact jBO h0
          have HC:=qh hc;clear h0 hsg hc;have hle:w.heap.size≤w1.heap.size:=hb1.size
          go_wp2_with (first
           | ((go_at_call 110;(with_reducible refine mo0 (jln HKZ.o (HEc.o.below bi) HLI.o) fun w3 hb3 hc3 hf3 _=> ?_));(first|have y3_0:=szl (k:=w1.heap.size) hb3 (by first|go_size|fail)|have y3_0:=Nat.one_pos);(first|have y3_1:=szl (k:=B5) hb3 (by first|go_size|fail)|have y3_1:=Nat.one_pos))
           | ((go_at_call 36;(with_reducible refine mf0 (jaz HX.o (HEc.o.below bi)) fun w4 s4 A4 n4 c4 t4 B4 m4 d4 hr4 hq4 hb4 hc4 hf4 _=> ?_));(first|have y4_0:=szl (k:=w1.heap.size) hb4 (by first|go_size|fail)|have y4_0:=Nat.one_pos);(first|have y4_1:=szl (k:=B5) hb4 (by first|go_size|fail)|have y4_1:=Nat.one_pos))
           | ((go_at_call 111;(with_reducible refine mo0 (jg2 HSG.o (by constructor <;> (with_reducible repeat first|assumption|apply rZ|refine rP ?_ rfl (by simp [go_sem,hc4])))) fun w5 hb5 hc5 hf5 _=> ?_));(first|have y5_0:=szl (k:=w1.heap.size) hb5 (by first|go_size|fail)|have y5_0:=Nat.one_pos);(first|have y5_1:=szl (k:=B5) hb5 (by first|go_size|fail)|have y5_1:=Nat.one_pos);(first|have y5_2:=szl (k:=w4.heap.size) hb5 (by first|go_size|fail)|have y5_2:=Nat.one_pos))
           | ((go_at_call 104;(with_reducible refine mf0 (jo7 (i*601+1) 600 rfl (HM2.o.below bi) (by constructor <;> (with_reducible repeat first|assumption|apply rZ|refine rP ?_ rfl (by simp [go_sem,hc4]))) HSS.o HXS.o (by have:=HI.o;omega)) fun w6 s6 A6 n6 c6 t6 B6 m6 d6 hr6 hq6 hb6 hc6 hf6 _=> ?_));(first|have y6_0:=szl (k:=w1.heap.size) hb6 (by first|go_size|fail)|have y6_0:=Nat.one_pos)))
          have bW6:Below wc.heap.size wc w6:=bi;have k60:=ja9 bW6 g0;have k61:=ja9 bW6 g1;have k62:=ja9 bW6 g2;have k63:=ja9 bW6 g3;have kf:∀o,w6.frozen? ⟨w1.heap.size,o,none⟩=false:=fun o=>(jBT bW6 hszc).trans (gf o)
          exact ⟨⟨i+1,s+x,s6,A6,n6,c6,t6,B6,m6,d6,by simp,bi,HI.o,by simp;exact y6_0,by simp [go_sem,k60,k61,k62,k63],by simp [go_sem,k60,k61,k62,k63],by simp [go_sem,k60,k61,k62,k63],by simp [go_sem,k60,k61,k62,k63],by intro o;simp [go_sem,kf],(by constructor <;> (with_reducible repeat first|assumption|apply rZ|refine rP ?_ rfl (by simp [go_sem,k60,k61,k62,k63]))),(HSS.o.add HXS.o).mono (by omega),by rw [HNX.o];exact HC.o⟩,by have:=HI.o;simp [intOf];omega⟩
        ·have hc:=HC.o;rw [if_pos hk2] at hc;obtain ⟨y,hy'⟩:∃y,chk x2=y:=⟨_,rfl⟩;rw [hy'] at hc hk2;subst hc;have HKZ:=qh hy';have q9:(y != 0)=true:=by rw [bne_iff_ne];exact hk2
         clear hk2 hy' HC;go_wp2_with (go_at_call 110;(with_reducible refine mo0 (jln HKZ.o (HEc.o.below bi) HLI.o) fun w3 hb3 hc3 hf3 _=> ?_))
         go_ret;exact ⟨rfl,bi⟩
  ·have p0:decide (i < n)=false:=by simp;omega
   have hc:=HC.o;rw [List.drop_eq_nil_of_le (by rw [HV.o.len];omega),jBm] at hc;have hin:i≤64:=by have:=HN.o;omega
   have H1:Hd (((1:Int):Rat)=1):=qh rfl;have HR1:Hd (R64 1):=qh ⟨by decide,by decide⟩;have HS1:Hd (Sz 1 (1:Rat)):=qh (by have:=(jej HR1.o);rw [H1.o] at this;exact this);obtain ⟨z,hz⟩:∃z,decide (s=1)=z:=⟨_,rfl⟩;have hk:k=if z then 0 else 12:=by rw [←hc,←hz];by_cases h:s=1 <;> simp [h]
   have HZ:=qh hz;subst hk;clear hi HC hc hz;cases z with
   | true=>
     go_upto_region 21 with (fail)
     refine ja1 (fun w'=>Below wr.heap.size wr w') [] (by kernel_rfl) ?_;refine tb 0 (fv ss As ns cs ts Bs ms ds) [] rfl (by kernel_rfl) pk rfl (by intros;go_simp) bq0 ?_;simp only [ppq];refine rd1 1 (by kernel_rfl) rfl (fun K hK=> ?_);go_simp;go_wp2_with (go_at_call 40;(with_reducible refine mf0 (jes H1.o HR1.o) fun w7 s7 A7 n7 c7 t7 B7 m7 d7 hr7 hq7 hb7 hc7 hf7 _=> ?_))
     have sS7:=qh (bst bq0 hb7);refine hK.out _ _ (fun _=>sS7.o) ?_;clear hK K;refine rd1 2 (by kernel_rfl) rfl (fun K hK=> ?_);go_simp;go_wp2_with (go_at_call 210;(with_reducible refine mo0 (jzu (i*601+1) 1 HZ.o (HM.o.below bi) ⟨hr7,hq7⟩ HSS.o HS1.o (by omega)) fun w8 hb8 hc8 hf8 _=> ?_))
     have sS8:=qh (bst sS7.o hb8);refine hK.out _ _ (fun _=>sS8.o) ?_;clear hK K;refine rd1 3 (by kernel_rfl) rfl (fun K hK=> ?_);go_simp;refine hK.out _ _ (fun _=>bi) ?_;clear hK K;refine ja2 (by kernel_rfl) ?_ _;go_wp2;go_ret;exact ⟨rfl,bi⟩
   | false=>
     go_upto_region 21 with (fail)
     refine ja1 (fun w'=>Below wr.heap.size wr w') [] (by kernel_rfl) ?_;refine tb 0 (fv ss As ns cs ts Bs ms ds) [] rfl (by kernel_rfl) pk rfl (by intros;go_simp) bq0 ?_;simp only [ppq];refine rd1 1 (by kernel_rfl) rfl (fun K hK=> ?_);go_simp;go_wp2_with (go_at_call 40;(with_reducible refine mf0 (jes H1.o HR1.o) fun w7 s7 A7 n7 c7 t7 B7 m7 d7 hr7 hq7 hb7 hc7 hf7 _=> ?_))
     have sS7:=qh (bst bq0 hb7);refine hK.out _ _ (fun _=>sS7.o) ?_;clear hK K;refine rd1 2 (by kernel_rfl) rfl (fun K hK=> ?_);go_simp;go_wp2_with (go_at_call 210;(with_reducible refine mo0 (jzu (i*601+1) 1 HZ.o (HM.o.below bi) ⟨hr7,hq7⟩ HSS.o HS1.o (by omega)) fun w8 hb8 hc8 hf8 _=> ?_))
     have sS8:=qh (bst sS7.o hb8);refine hK.out _ _ (fun _=>sS8.o) ?_;clear hK K;refine rd1 3 (by kernel_rfl) rfl (fun K hK=> ?_);go_simp;refine hK.out _ _ (fun _=>bi) ?_;clear hK K;refine ja2 (by kernel_rfl) ?_ _;go_wp2;go_ret;exact ⟨rfl,bi⟩
end

structure Lay where
 grain:List UInt8
 mass:Int
 shares:List (List UInt8×List UInt8)
abbrev jyL:Lay:=⟨[],0,[]⟩
structure LyAt (w:World) (b o:Nat) (x:Lay):Prop where
 at_:∃A c,w.cell? ⟨b,o,none⟩=some (bs x.grain)∧w.cell? ⟨b,o+1,none⟩=some (.int .i64 x.mass)∧w.cell? ⟨b,o+2,none⟩=some (.slice A x.shares.length c)∧Pv w A x.shares.length x.shares
theorem LyAt.below {w w':World} {b o:Nat} {x:Lay} (h:LyAt w b o x) (hb:Below w.heap.size w w'):LyAt w' b o x:=by
 obtain ⟨A,c,h1,h2,h3,h4⟩:=h.at_;exact ⟨⟨A,c,ja9 hb h1,ja9 hb h2,ja9 hb h3,h4.below hb⟩⟩
structure Lv (w:World) (A:Option Addr) (n:Nat) (ls:List Lay):Prop where
 len:ls.length=n
 at_:0 < n→∃b o,A=some ⟨b,o,none⟩∧b < w.heap.size∧∀j,j < n→LyAt w b (o+j*3) (ls.getD j jyL)
theorem Lv.below {w w':World} {A:Option Addr} {n:Nat} {ls:List Lay} (h:Lv w A n ls) (hb:Below w.heap.size w w'):Lv w' A n ls:=
 ⟨h.len,fun hn=>by
   obtain ⟨b,o,e,h1,h2⟩:=h.at_ hn
   exact ⟨b,o,e,Nat.lt_of_lt_of_le h1 hb.size,fun j hj=>(h2 j hj).below hb⟩⟩
noncomputable def jyQ (x:Lay):Int:=if jyT x.grain=false then 8 else if x.mass < 1∨999999999 < x.mass then 3 else jyU x.shares
structure LayIn (x:Lay):Prop where
 mass:R64 x.mass
 many:x.shares.length≤100000
 len:∀p∈x.shares,p.1.length < 4294967281∧p.2.length < 4294967281
theorem jAf {w:World} {A:Option Addr} {n c:Nat} {ls:List (List UInt8×List UInt8)} {k:Int} (hk:jyU ls=k) (hE:Env w) (hv:Pv w A n ls) (hl:∀p∈ls,p.1.length < 4294967281∧p.2.length < 4294967281):
  Calls prog 174 #[.slice A n c] w fun e w'=>e= .returned (.int .i64 k)∧Below w.heap.size w w':=by
 unfold jyU at hk;rw [hv.len] at hk;by_cases h0:n=0
 ·rw [if_pos h0] at hk;subst h0;subst hk;exact jAg
 ·rw [if_neg h0] at hk;by_cases h1:64 < n
  ·rw [if_pos h1] at hk;subst hk;exact jAd h1
  ·rw [if_neg h1] at hk;exact jAM hE hv (by omega) (by omega) hl hk
section
variable {w:World} {A:Option Addr} {n c:Nat} {x:Lay}
theorem jzv {k:Int} (hk:jyQ x=k) (hE:Env w) (hv:Pv w A x.shares.length x.shares) (hi:LayIn x):
  Calls prog 112 #[.agg #[bs x.grain, .int .i64 x.mass, .slice A x.shares.length c]] w fun e w'=>e= .returned (.int .i64 k)∧Below w.heap.size w w':=by
 obtain ⟨g,m,ls⟩:=x;have hil:=hi.len;unfold jyQ at hk;dsimp only at hk hv hil ⊢;have HE:=qh hE;have HV:=qh hv;have HL:=qh hil;clear hE hv hil hi;obtain ⟨n,hn⟩:∃n,ls.length=n:=⟨_,rfl⟩;rw [hn] at HV ⊢;clear hn;cases hg:jyT g with
 | false=>
   rw [hg,if_pos rfl] at hk;subst hk;have HG:=qh hg;clear hg;go_enter func112,ntmps112;go_wp2_with (go_at_call 115;(with_reducible refine mo1 w (jyM HG.o) (by go_size) fun w1 hb1 hc1 hf1 z1_0 _=> ?_))
   go_ret;exact ⟨rfl,bi⟩
 | true=>
   rw [hg,if_neg (by simp)] at hk;have HG:=qh hg;clear hg;by_cases h1:m < 1
   ·rw [if_pos (Or.inl h1)] at hk;subst hk;have q1:decide (m < 1)=true:=by simpa using h1
    clear h1;go_enter func112,ntmps112;go_wp2_with (go_at_call 115;(with_reducible refine mo1 w (jyM HG.o) (by go_size) fun w1 hb1 hc1 hf1 z1_0 _=> ?_))
    go_ret;exact ⟨rfl,bi⟩
   ·have q1:decide (m < 1)=false:=by simpa using h1
    by_cases h2:999999999 < m
    ·rw [if_pos (Or.inr h2)] at hk;subst hk;have q2:decide (999999999 < m)=true:=by simpa using h2
     clear h1 h2;go_enter func112,ntmps112;go_wp2_with (go_at_call 115;(with_reducible refine mo1 w (jyM HG.o) (by go_size) fun w1 hb1 hc1 hf1 z1_0 _=> ?_))
     go_ret;exact ⟨rfl,bi⟩
    ·rw [if_neg (fun h=>h.elim h1 h2)] at hk;have q2:decide (999999999 < m)=false:=by simpa using h2
     have HK:=qh hk;clear h1 h2 hk;go_enter func112,ntmps112
     go_wp2_with (first
      | (go_at_call 115;(with_reducible refine mo1 w (jyM HG.o) (by go_size) fun w1 hb1 hc1 hf1 z1_0 _=> ?_))
      | (go_at_call 174;(with_reducible refine mo1 w (jAf HK.o (HE.o.below bi) (HV.o.below bi) HL.o) (by go_size) fun w2 hb2 hc2 hf2 z2_0 _=> ?_)))
     go_ret;exact ⟨rfl,bi⟩
end
section
variable {w:World} {A:Option Addr} {n c:Nat} {ls:List Lay} {f:Lay→Int}
theorem jzp (h:Lv w A n ls) (hn:n≤100000) (hf:∀x∈ls,∀W,Below w.heap.size w W→∀B d,Pv W B x.shares.length x.shares→Calls prog 112 #[.agg #[bs x.grain, .int .i64 x.mass, .slice B x.shares.length d]] W fun e w'=>e= .returned (.int .i64 (f x))∧Below W.heap.size W w'):
  Calls prog 211 #[.func (.func 112) #[] #[], .slice A n c] w fun e w'=>e= .returned (.int .i64 (jar f ls))∧Below w.heap.size w w':=by
 obtain ⟨R,hR⟩:∃R,jar f ls=R:=⟨_,rfl⟩;rw [hR];have HR:=qh hR;have H:=qh h;have HN:=qh hn;have HF:=qh hf;clear hR h hn hf;go_enter func211,ntmps211;go_wp2
 go_loopw [10] (fun u wr=>∃(i:Nat),u= .int .i64 (i:Int)∧Below w.heap.size w wr∧i≤n∧jar f (ls.drop i)=R) (fun u _=>n - (intOf u).toNat)
 case atStart=>exact ⟨0,rfl,bi,by omega,HR.o⟩
 case round=>
  obtain ⟨i,rfl,hb,hin,hc⟩:=hrel;have _:=bm hb;by_cases hi:i < n
  ·have q0:decide ((i:Int) < (n:Int))=true:=by simp;exact hi
   obtain ⟨b,o,rfl,hbl,hcell⟩:=(H.o.below hb).at_ (by omega);obtain ⟨B,d,hx,hy,hz,hp⟩:=(hcell i hi).at_;have hil:i < ls.length:=by rw [H.o.len];exact hi
   rw [jd5 (d:=jyL) hil] at hc;have hmem:ls.getD i jyL∈ls:=by rw [List.getD_eq_getElem?_getD,List.getElem?_eq_getElem hil];exact List.getElem_mem hil
   obtain ⟨x,hxx⟩:∃x,ls.getD i jyL=x:=⟨_,rfl⟩;rw [hxx] at hx hy hz hp hc hmem;have HX:Hd (∀W,Below wr.heap.size wr W→Calls prog 112 #[.agg #[bs x.grain, .int .i64 x.mass, .slice B x.shares.length d]] W fun e w'=>e= .returned (.int .i64 (f x))∧Below W.heap.size W w'):=qh (fun W hW=>HF.o x hmem W (ja0 hb hW) B d (hp.below hW));have hnn:=HN.o;have HI:=qh hi;obtain ⟨x1,hx1⟩:∃y,x.grain=y:=⟨_,rfl⟩;obtain ⟨x2,hx2⟩:∃y,x.mass=y:=⟨_,rfl⟩;obtain ⟨x3,hx3⟩:∃y,x.shares.length=y:=⟨_,rfl⟩;rw [hx1] at hx HX;rw [hx2] at hy HX;rw [hx3] at hz HX;clear hcell hmem hil hxx hx1 hx2 hx3 hp;by_cases h0:f x=0
   ·have HC:Hd (jar f (ls.drop (i+1))=R):=qh (by rw [←hc,jf3 h0]);rw [h0] at HX;clear hc h0 hi;go_wp2_with (go_at_call 112;(with_reducible refine mo0 (HX.o _ bi) fun w1 hb1 hc1 hf1 _=> ?_))
    exact ⟨⟨i+1,by simp,bi,HI.o,HC.o⟩,by have:=HI.o;simp [intOf];omega⟩
   ·have hR:R=f x:=by rw [←hc,jed h0]
    subst hR;obtain ⟨y,hy'⟩:∃y,f x=y:=⟨_,rfl⟩;rw [hy'] at HX;have q1:(y != 0)=true:=by rw [bne_iff_ne,←hy'];exact h0
    have HY:=qh hy';clear hc h0 hi hy' HR;go_wp2_with (go_at_call 112;(with_reducible refine mo0 (HX.o _ bi) fun w1 hb1 hc1 hf1 _=> ?_))
    go_ret;exact ⟨by rw [HY.o];rfl,bi⟩
  ·have q0:decide (i < n)=false:=by simp;omega
   rw [List.drop_eq_nil_of_le (by rw [H.o.len];omega)] at hc;have hR:R=0:=by rw [←hc];rfl
   subst hR;clear hc hi HR;go_wp2;go_ret;exact ⟨rfl,bi⟩
theorem jA9 {k:Int} (hk:jar jyQ ls=k) (hE:Env w) (h:Lv w A n ls) (hn:n≤100000) (hi:∀x∈ls,LayIn x):
  Calls prog 211 #[.func (.func 112) #[] #[], .slice A n c] w fun e w'=>e= .returned (.int .i64 k)∧Below w.heap.size w w':=by
 subst hk;exact jzp h hn (fun x hx W hW B d hv=>jzv rfl (hE.below hW) hv (hi x hx))
end

section
variable {w:World} {A B:Option Addr} {n c d:Nat} {ls:List (List UInt8×List UInt8)} {los his:List Rat} {ws:List Int} {s:Int}
theorem jBs {zl zh:Rat} {tl th:List UInt8} {ke:Int} (hE:Env w) (h:SpIn w A n ls los his) (hw:Iv w B n ws) (hcw:cw ws=(s,0)) (hws:∀j,j < n→0≤ws.getD j 0∧ws.getD j 0≤999999999) (hs0:0 < s) (hs1:s < 9223372036854775808)
  (hl:jyY los ws n / (s:Rat)=zl) (hh:jyY his ws n / (s:Rat)=zh) (hSl:StrQ zl) (hSh:StrQ zh) (htl:jC0 zl zh=tl) (hth:jC2 zl zh=th) (hke:jC5 zl zh=ke):
  Calls prog 22 #[.slice A n c, .slice B n d] w fun e w'=>e= .returned (.tuple #[sp tl th, .int .i64 ke])∧Below w.heap.size w w':=by
 have HE:=qh hE;have HS:=qh h;have HN:=qh h.le;have HW:=qh hw;have HWS:=qh hws;have HS0:=qh hs0;have HS1:=qh hs1;have HZL:=qh hl;have HZH:=qh hh;have HSL:=qh hSl;have HSH:=qh hSh;have HTL:=qh htl;have HTH:=qh hth;have HKE:=qh hke;have HPL:Hd (∀j,j < n→Sz 2 (los.getD j 0)):=qh (fun j hj=>(h.num j hj).2.2.1);have HPH:Hd (∀j,j < n→Sz 2 (his.getD j 0)):=qh (fun j hj=>(h.num j hj).2.2.2)
 have HCW:Hd (∀W,Below w.heap.size w W→Calls prog 70 #[.slice B n d] W fun e w'=>e= .returned (.tuple #[.int .i64 s, .int .i64 0])∧Below W.heap.size W w'):=qh (fun W hb=>by
  have:=jzg (c:=d) (hw.below hb) (show n≤100000 by have:=h.le;omega)
  rwa [hcw] at this)
 clear hE h hw hcw hws hs0 hs1 hl hh hSl hSh htl hth hke;go_enter func22,ntmps22
 go_upto_region 9 with (first
  | (go_at_call 69;((with_reducible refine (jBp (HE.o.below bi) (HS.o.below bi)).mono ?_);rintro e1 w1 ⟨A1,c1,A2,c2,rfl,hv1,hv2,hb1⟩;have _:=bm hb1);obtain ⟨hc1,hf1,z1_0,_⟩:=bc1 w hb1 (by go_size))
  | (go_at_call 70;(with_reducible refine mo1 w (HCW.o _ bi) (by go_size) fun w2 hb2 hc2 hf2 z2_0 _=> ?_)))
 have HV1:=qh hv1;have HV2:=qh hv2;clear hv1 hv2
 go_wp2_with (first
  | ((go_at_call 72;(with_reducible refine mf1 w (jAq (HV1.o.below bi) (HW.o.below bi) HN.o HPL.o (by omega) HWS.o HS0.o HS1.o HZL.o) (by go_size) fun w3 s3 A3 n3 c3 t3 B3 m3 d3 hr3 hq3 hb3 hc3 hf3 z3_0 _=> ?_)))
  | ((go_at_call 72;(with_reducible refine mf1 w (jAq (HV2.o.below bi) (HW.o.below bi) HN.o HPH.o (by omega) HWS.o HS0.o HS1.o HZH.o) (by go_size) fun w4 s4 A4 n4 c4 t4 B4 m4 d4 hr4 hq4 hb4 hc4 hf4 z4_0 _=> ?_)))
  | (go_at_call 71;(with_reducible refine mo1 w (jAx HTL.o HTH.o HKE.o (HE.o.below bi) (by constructor <;> (with_reducible repeat first|assumption|apply rZ|refine rP ?_ rfl (by simp [go_sem,hc4]))) ⟨hr4,hq4⟩ HSL.o HSH.o) (by go_size) fun w5 hb5 hc5 hf5 z5_0 _=> ?_)))
 exact bodyPost_ret (v:= .tuple #[sp tl th, .int .i64 ke]) (by simp [results,results22,go_sem,hc1,hc2,hc3,hc4,hc5,hf1,hf2,hf3,hf4,hf5,z1_0,z2_0,z3_0,z4_0,z5_0]) rfl ⟨rfl,bi⟩
end

section
variable {w:World} {A B:Option Addr} {n m c d:Nat} {zs ys:List Int}
end
section
variable {w:World} {A B:Option Addr} {n m c d:Nat} {zs ys:List (List UInt8×List UInt8)}
end
section
variable {w:World} {A B:Option Addr} {n m c d:Nat} {zs ys:List (List UInt8×List UInt8)} {g h:List UInt8} {x y:Int}
end

section
variable {w:World} {sx tx:Int} {Ax Bx:Option Addr} {nx cx mx dx p g:Nat} {x s y:Rat} {kind step:List UInt8}
end

section
variable {w:World} {x s:Rat} {kind step a:List UInt8}
end


section
variable {w:World} {a1 a2 b1 b2:List UInt8} {x1 x2 y1 y2:Rat}
end
end Go.Proofs.YtdbaealhapgjaaaGreatDoor
