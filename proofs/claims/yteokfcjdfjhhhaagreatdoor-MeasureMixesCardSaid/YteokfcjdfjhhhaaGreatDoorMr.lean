/- Parts. -/
import Derived.Test.YteokfcjdfjhhhaaGreatDoorMqG
set_option linter.all false
set_option maxRecDepth 100000
set_option maxHeartbeats 8000000
namespace Go.Proofs.YteokfcjdfjhhhaaGreatDoor
open Go Go.RowKit

structure FAt (w:World) (b o:Nat) (x:Rat):Prop where
 at_:∃s A n c t B m d,w.cell? ⟨b,o,none⟩=some (.int .i64 s)∧w.cell? ⟨b,o+1,none⟩=some (.slice A n c)∧w.cell? ⟨b,o+2,none⟩=some (.int .i64 t)∧w.cell? ⟨b,o+3,none⟩=some (.slice B m d)∧RepF w s A n c t B m d x
theorem FAt.below {w w':World} {b o:Nat} {x:Rat} (h:FAt w b o x) (hb:Below w.heap.size w w'):FAt w' b o x:=by
 obtain ⟨s,A,n,c,t,B,m,d,h1,h2,h3,h4,h5⟩:=h.at_;exact ⟨⟨s,A,n,c,t,B,m,d,ja5 hb h1,ja5 hb h2,ja5 hb h3,ja5 hb h4,h5.below hb⟩⟩
structure Qv (w:World) (A:Option Addr) (n:Nat) (qs:List Rat):Prop where
 len:qs.length=n
 at_:0 < n→∃b o,A=some ⟨b,o,none⟩∧b < w.heap.size∧∀j,j < n→FAt w b (o+j*4) (qs.getD j 0)
theorem Qv.below {w w':World} {A:Option Addr} {n:Nat} {qs:List Rat} (h:Qv w A n qs) (hb:Below w.heap.size w w'):Qv w' A n qs:=
 ⟨h.len,fun hn=>by
   obtain ⟨b,o,e,h1,h2⟩:=h.at_ hn
   exact ⟨b,o,e,Nat.lt_of_lt_of_le h1 hb.size,fun j hj=>(h2 j hj).below hb⟩⟩
def jly (m:Rat):List Rat→Rat
 | []=>m
 | x::r=>jly (if Rq.cmpQ x m < 0 then x else m) r
def jmS (m:Rat):List Rat→Rat
 | []=>m
 | x::r=>jmS (if Rq.cmpQ x m > 0 then x else m) r
section
variable {w:World} {A:Option Addr} {n c p:Nat} {qs:List Rat}
theorem jlO
(h:Qv w A n qs) (h0:0 < n) (hn:n≤100000) (hs:∀q∈qs,Sz p q) (hp:p≤20000):
  Calls Tryz.prog 117 #[.slice A n c, .func (.func 72) #[] #[]] w (jad (jly (qs.getD 0 0) (qs.drop 1)) w):=by
  obtain ⟨R,hR⟩:∃R,jly (qs.getD 0 0) (qs.drop 1)=R:=⟨_,rfl⟩;rw [hR];have HR:=qh hR;have HN:=qh hn
  have HS:Hid (∀i,i < n→Sz p (qs.getD i 0)):=qh (fun i hi=>hs _ (by
   have:i < qs.length:=by rw [h.len];exact hi
   rw [List.getD_eq_getElem?_getD,List.getElem?_eq_getElem this];exact List.getElem_mem this))
  have HP:=qh hp;have HLEN:=qh h.len;obtain ⟨b,o,rfl,hbl,hat⟩:=h.at_ h0;have HAT:Hid (∀j,j < n→FAt w b (o+j*4) (qs.getD j 0)):=qh hat;have q0:decide (n < 1)=false:=by simp;omega
  have q0':decide ((n:Int) < 1)=false:=by simp;omega
  obtain ⟨s0,A0,n0,c0,t0,B0,m0,d0,k0,k1,k2,k3,kr⟩:=hat 0 h0;have HB0:=qh kr;rw [Nat.zero_mul,Nat.add_zero] at k0 k1 k2 k3;clear hR h hn hs hp hat kr;go_enter Tryz.func117,Tryz.ntmps117;go_upto_region 5 with (fail)
  go_loopw [6] (fun u wr=>∃(i:Nat) (m:Rat) (sm:Int) (Am:Option Addr) (nm cm:Nat) (tm:Int) (Bm:Option Addr) (mm dm:Nat),u= .int .i64 (i:Int)∧Below w.heap.size w wr∧1≤i∧i≤n∧w.heap.size+1 < wr.heap.size
    ∧wr.cell? ⟨w.heap.size,0,none⟩=some (.int .i64 0)∧wr.cell? ⟨w.heap.size,1,none⟩=some (.slice none 0 0)∧wr.cell? ⟨w.heap.size,2,none⟩=some (.int .i64 0)∧wr.cell? ⟨w.heap.size,3,none⟩=some (.slice none 0 0)
    ∧wr.cell? ⟨w.heap.size+1,0,none⟩=some (.int .i64 sm)∧wr.cell? ⟨w.heap.size+1,1,none⟩=some (.slice Am nm cm)∧wr.cell? ⟨w.heap.size+1,2,none⟩=some (.int .i64 tm)∧wr.cell? ⟨w.heap.size+1,3,none⟩=some (.slice Bm mm dm)
    ∧(∀o,wr.frozen? ⟨w.heap.size,o,none⟩=false)∧(∀o,wr.frozen? ⟨w.heap.size+1,o,none⟩=false)
    ∧RepF wr sm Am nm cm tm Bm mm dm m∧Sz p m∧jly m (qs.drop i)=R) (fun u _=>n - (intOf u).toNat)
  case atStart=>
   obtain ⟨kr1,kr2⟩:=HB0.out;exact ⟨1,_,s0,A0,n0,c0,t0,B0,m0,d0,rfl,bi,by omega,by omega,by simp,by simp [go_sem],by simp [go_sem],by simp [go_sem],by simp [go_sem],by simp [go_sem],by simp [go_sem],by simp [go_sem],by simp [go_sem],by intro o;simp [go_sem],by intro o;simp [go_sem],⟨(by with_reducible repeat first|assumption|apply rZ|refine rP ?_ rfl (by simp [go_sem,jcg])),(by with_reducible repeat first|assumption|apply rZ|refine rP ?_ rfl (by simp [go_sem,jcg]))⟩,HS.out 0 h0,HR.out⟩
  case round=>
   obtain ⟨i,m,sm,Am,nm,cm,tm,Bm,mm,dm,rfl,hb,hi1,hin,hsz,e0,e1,e2,e3,e4,e5,e6,e7,f0,f1,hrm,hsm,hc⟩:=hrel;have _:=bm hb;have HM:=qh hrm;have HSM:=qh hsm;have HC:=qh hc;have hsz0:w.heap.size < wr.heap.size:=Nat.lt_of_succ_lt hsz;have hbw:b < wr.heap.size:=Nat.lt_of_lt_of_le hbl hb.size;clear hrm hsm hc;by_cases hi:i < n
   ·have q1:decide ((i:Int) < (n:Int))=true:=by simp;exact hi
    have hnn:=HN.out;obtain ⟨si,Ai,ni,ci,ti,Bi,mi,di,k4,k5,k6,k7,kr⟩:=((HAT.out i hi).below hb).at_;have HQ:=qh kr;have HSI:=qh (HS.out i hi);obtain ⟨x,hx⟩:∃x,qs.getD i 0=x:=⟨_,rfl⟩;obtain ⟨z,hz⟩:∃z,Rq.cmpQ x m=z:=⟨_,rfl⟩;have HZ:=qh hz;rw [hx] at HQ HSI
    have HC2:Hid (jly (if z < 0 then x else m) (qs.drop (i+1))=R):=qh (by
     have h1:i < qs.length:=by rw [HLEN.out];exact hi
     have h2:=HC.out;rw [jaH (d:=0) h1,hx,jly,hz] at h2
     exact h2)
    have HI:=qh hi;clear kr hx hz HC hi;go_upto_region 7 with (fail)
    refine ja3 (fun w'=>Below wr.heap.size wr w') [] (by kernel_rfl) ?_;refine tb 0 (.func (.func 72) #[] #[]) [6] rfl (by kernel_rfl) pk rfl (by intros;go_simp) bq0 ?_;refine tb 1 (.slice (some ⟨b,o,none⟩) n c) [3] rfl (by kernel_rfl) pk rfl (by intros;go_simp) bq0 ?_;refine tb 2 (.int .i64 (i:Int)) [3] rfl (by kernel_rfl) pk rfl (by intros;go_simp) bq0 ?_;refine tb 3 (.pointer (some ⟨b,o+i*4,none⟩)) [4] rfl (by kernel_rfl) pk rfl (by intros;go_simp) bq0 ?_;refine tb 4 (fv si Ai ni ci ti Bi mi di) [6] rfl (by kernel_rfl) pk rfl (by intros;go_simp) bq0 ?_;refine tb 5 (fv sm Am nm cm tm Bm mm dm) [6] rfl (by kernel_rfl) pk rfl (by intros;go_simp) bq0 ?_;simp only [ppq];refine rd1 6 (by kernel_rfl) rfl (fun K hK=> ?_);go_simp;go_wp2_with (go_at_call 72;(with_reducible refine mo2 w (jaV p p HZ.out (HQ.out.below bi) (HM.out.below bi) HSI.out HSM.out (by have:=HP.out;omega)) (by go_size) fun w1 hb1 hc1 hf1 z1_0 z1_1 _=> ?_))
    have sS1:=qh (bst bq0 hb1);refine hK.out _ _ (fun _=>sS1.out) ?_;clear hK K;refine rd1 7 (by kernel_rfl) rfl (fun K hK=> ?_);go_simp;refine hK.out _ _ (fun _=>bi) ?_;clear hK K;refine ja2 (by kernel_rfl) ?_ _;go_wp2
    ·rw [if_pos (show z < 0 by omega)] at HC2;obtain ⟨hq1,hq2⟩:=HQ.out;exact ⟨⟨i+1,x,si,Ai,ni,ci,ti,Bi,mi,di,by simp,bi,by omega,HI.out,(by simp;exact z1_1),by simp [go_sem,hc1,z1_0,z1_1,hsz,hsz0,hf1,e0,e1,e2,e3,e4,e5,e6,e7,f0,f1],by simp [go_sem,hc1,z1_0,z1_1,hsz,hsz0,hf1,e0,e1,e2,e3,e4,e5,e6,e7,f0,f1],by simp [go_sem,hc1,z1_0,z1_1,hsz,hsz0,hf1,e0,e1,e2,e3,e4,e5,e6,e7,f0,f1],by simp [go_sem,hc1,z1_0,z1_1,hsz,hsz0,hf1,e0,e1,e2,e3,e4,e5,e6,e7,f0,f1],by simp [go_sem,hc1,z1_0,z1_1,hsz,hsz0,hf1,e0,e1,e2,e3,e4,e5,e6,e7,f0,f1],by simp [go_sem,hc1,z1_0,z1_1,hsz,hsz0,hf1,e0,e1,e2,e3,e4,e5,e6,e7,f0,f1],by simp [go_sem,hc1,z1_0,z1_1,hsz,hsz0,hf1,e0,e1,e2,e3,e4,e5,e6,e7,f0,f1],by simp [go_sem,hc1,z1_0,z1_1,hsz,hsz0,hf1,e0,e1,e2,e3,e4,e5,e6,e7,f0,f1],by intro o;simp [go_sem,hc1,z1_0,z1_1,hsz,hsz0,hf1,f0,f1],by intro o;simp [go_sem,hc1,z1_0,z1_1,hsz,hsz0,hf1,f0,f1],⟨(by with_reducible repeat first|assumption|apply rZ|refine rP ?_ rfl (by simp [go_sem,hc1,z1_0,z1_1,hsz,hsz0,hf1,e0,e1,e2,e3,e4,e5,e6,e7,f0,f1])),(by with_reducible repeat first|assumption|apply rZ|refine rP ?_ rfl (by simp [go_sem,hc1,z1_0,z1_1,hsz,hsz0,hf1,e0,e1,e2,e3,e4,e5,e6,e7,f0,f1]))⟩,HSI.out,HC2.out⟩,by have:=HI.out;simp [intOf];omega⟩
    ·rw [if_neg (show ¬z < 0 by omega)] at HC2;exact ⟨⟨i+1,m,sm,Am,nm,cm,tm,Bm,mm,dm,by simp,bi,by omega,HI.out,z1_1,by simp [go_sem,hc1,z1_0,z1_1,hsz,hsz0,hf1,e0,e1,e2,e3,e4,e5,e6,e7,f0,f1],by simp [go_sem,hc1,z1_0,z1_1,hsz,hsz0,hf1,e0,e1,e2,e3,e4,e5,e6,e7,f0,f1],by simp [go_sem,hc1,z1_0,z1_1,hsz,hsz0,hf1,e0,e1,e2,e3,e4,e5,e6,e7,f0,f1],by simp [go_sem,hc1,z1_0,z1_1,hsz,hsz0,hf1,e0,e1,e2,e3,e4,e5,e6,e7,f0,f1],by simp [go_sem,hc1,z1_0,z1_1,hsz,hsz0,hf1,e0,e1,e2,e3,e4,e5,e6,e7,f0,f1],by simp [go_sem,hc1,z1_0,z1_1,hsz,hsz0,hf1,e0,e1,e2,e3,e4,e5,e6,e7,f0,f1],by simp [go_sem,hc1,z1_0,z1_1,hsz,hsz0,hf1,e0,e1,e2,e3,e4,e5,e6,e7,f0,f1],by simp [go_sem,hc1,z1_0,z1_1,hsz,hsz0,hf1,e0,e1,e2,e3,e4,e5,e6,e7,f0,f1],by intro o;simp [go_sem,hc1,z1_0,z1_1,hsz,hsz0,hf1,f0,f1],by intro o;simp [go_sem,hc1,z1_0,z1_1,hsz,hsz0,hf1,f0,f1],HM.out.below bi,HSM.out,HC2.out⟩,by have:=HI.out;simp [intOf];omega⟩
   ·have q1:decide (i < n)=false:=by simp;omega
    have hR:m=R:=by
     have h2:=HC.out;rw [List.drop_eq_nil_of_le (by rw [HLEN.out];omega)] at h2;exact h2
    subst hR;clear hi HR HC;obtain ⟨hq1,hq2⟩:=HM.out;go_wp2;exact bodyPost_ret (v:= .agg #[.int .i64 (sm), .slice (Am) (nm) (cm), .int .i64 (tm), .slice (Bm) (mm) (dm)]) (by simp [results,Tryz.results117,go_sem,hsz,hsz0,e0,e1,e2,e3,f0,f1]) rfl (jap rfl ⟨(by with_reducible repeat first|assumption|apply rZ|refine rP ?_ rfl (by simp [go_sem,hsz,hsz0,e0,e1,e2,e3,f0,f1])),(by with_reducible repeat first|assumption|apply rZ|refine rP ?_ rfl (by simp [go_sem,hsz,hsz0,e0,e1,e2,e3,f0,f1]))⟩ bi)
theorem jmu
(h:Qv w A n qs) (h0:0 < n) (hn:n≤100000) (hs:∀q∈qs,Sz p q) (hp:p≤20000):
  Calls Tryz.prog 118 #[.slice A n c, .func (.func 72) #[] #[]] w (jad (jmS (qs.getD 0 0) (qs.drop 1)) w):=by
  obtain ⟨R,hR⟩:∃R,jmS (qs.getD 0 0) (qs.drop 1)=R:=⟨_,rfl⟩;rw [hR];have HR:=qh hR;have HN:=qh hn
  have HS:Hid (∀i,i < n→Sz p (qs.getD i 0)):=qh (fun i hi=>hs _ (by
   have:i < qs.length:=by rw [h.len];exact hi
   rw [List.getD_eq_getElem?_getD,List.getElem?_eq_getElem this];exact List.getElem_mem this))
  have HP:=qh hp;have HLEN:=qh h.len;obtain ⟨b,o,rfl,hbl,hat⟩:=h.at_ h0;have HAT:Hid (∀j,j < n→FAt w b (o+j*4) (qs.getD j 0)):=qh hat;have q0:decide (n < 1)=false:=by simp;omega
  have q0':decide ((n:Int) < 1)=false:=by simp;omega
  obtain ⟨s0,A0,n0,c0,t0,B0,m0,d0,k0,k1,k2,k3,kr⟩:=hat 0 h0;have HB0:=qh kr;rw [Nat.zero_mul,Nat.add_zero] at k0 k1 k2 k3;clear hR h hn hs hp hat kr;go_enter Tryz.func118,Tryz.ntmps118;go_upto_region 5 with (fail)
  go_loopw [6] (fun u wr=>∃(i:Nat) (m:Rat) (sm:Int) (Am:Option Addr) (nm cm:Nat) (tm:Int) (Bm:Option Addr) (mm dm:Nat),u= .int .i64 (i:Int)∧Below w.heap.size w wr∧1≤i∧i≤n∧w.heap.size+1 < wr.heap.size
    ∧wr.cell? ⟨w.heap.size,0,none⟩=some (.int .i64 0)∧wr.cell? ⟨w.heap.size,1,none⟩=some (.slice none 0 0)∧wr.cell? ⟨w.heap.size,2,none⟩=some (.int .i64 0)∧wr.cell? ⟨w.heap.size,3,none⟩=some (.slice none 0 0)
    ∧wr.cell? ⟨w.heap.size+1,0,none⟩=some (.int .i64 sm)∧wr.cell? ⟨w.heap.size+1,1,none⟩=some (.slice Am nm cm)∧wr.cell? ⟨w.heap.size+1,2,none⟩=some (.int .i64 tm)∧wr.cell? ⟨w.heap.size+1,3,none⟩=some (.slice Bm mm dm)
    ∧(∀o,wr.frozen? ⟨w.heap.size,o,none⟩=false)∧(∀o,wr.frozen? ⟨w.heap.size+1,o,none⟩=false)
    ∧RepF wr sm Am nm cm tm Bm mm dm m∧Sz p m∧jmS m (qs.drop i)=R) (fun u _=>n - (intOf u).toNat)
  case atStart=>
   obtain ⟨kr1,kr2⟩:=HB0.out;exact ⟨1,_,s0,A0,n0,c0,t0,B0,m0,d0,rfl,bi,by omega,by omega,by simp,by simp [go_sem],by simp [go_sem],by simp [go_sem],by simp [go_sem],by simp [go_sem],by simp [go_sem],by simp [go_sem],by simp [go_sem],by intro o;simp [go_sem],by intro o;simp [go_sem],⟨(by with_reducible repeat first|assumption|apply rZ|refine rP ?_ rfl (by simp [go_sem,jcg])),(by with_reducible repeat first|assumption|apply rZ|refine rP ?_ rfl (by simp [go_sem,jcg]))⟩,HS.out 0 h0,HR.out⟩
  case round=>
   obtain ⟨i,m,sm,Am,nm,cm,tm,Bm,mm,dm,rfl,hb,hi1,hin,hsz,e0,e1,e2,e3,e4,e5,e6,e7,f0,f1,hrm,hsm,hc⟩:=hrel;have _:=bm hb;have HM:=qh hrm;have HSM:=qh hsm;have HC:=qh hc;have hsz0:w.heap.size < wr.heap.size:=Nat.lt_of_succ_lt hsz;have hbw:b < wr.heap.size:=Nat.lt_of_lt_of_le hbl hb.size;clear hrm hsm hc;by_cases hi:i < n
   ·have q1:decide ((i:Int) < (n:Int))=true:=by simp;exact hi
    have hnn:=HN.out;obtain ⟨si,Ai,ni,ci,ti,Bi,mi,di,k4,k5,k6,k7,kr⟩:=((HAT.out i hi).below hb).at_;have HQ:=qh kr;have HSI:=qh (HS.out i hi);obtain ⟨x,hx⟩:∃x,qs.getD i 0=x:=⟨_,rfl⟩;obtain ⟨z,hz⟩:∃z,Rq.cmpQ x m=z:=⟨_,rfl⟩;have HZ:=qh hz;rw [hx] at HQ HSI
    have HC2:Hid (jmS (if z > 0 then x else m) (qs.drop (i+1))=R):=qh (by
     have h1:i < qs.length:=by rw [HLEN.out];exact hi
     have h2:=HC.out;rw [jaH (d:=0) h1,hx,jmS,hz] at h2
     exact h2)
    have HI:=qh hi;clear kr hx hz HC hi;go_upto_region 7 with (fail)
    refine ja3 (fun w'=>Below wr.heap.size wr w') [] (by kernel_rfl) ?_;refine tb 0 (.func (.func 72) #[] #[]) [6] rfl (by kernel_rfl) pk rfl (by intros;go_simp) bq0 ?_;refine tb 1 (.slice (some ⟨b,o,none⟩) n c) [3] rfl (by kernel_rfl) pk rfl (by intros;go_simp) bq0 ?_;refine tb 2 (.int .i64 (i:Int)) [3] rfl (by kernel_rfl) pk rfl (by intros;go_simp) bq0 ?_;refine tb 3 (.pointer (some ⟨b,o+i*4,none⟩)) [4] rfl (by kernel_rfl) pk rfl (by intros;go_simp) bq0 ?_;refine tb 4 (fv si Ai ni ci ti Bi mi di) [6] rfl (by kernel_rfl) pk rfl (by intros;go_simp) bq0 ?_;refine tb 5 (fv sm Am nm cm tm Bm mm dm) [6] rfl (by kernel_rfl) pk rfl (by intros;go_simp) bq0 ?_;simp only [ppq];refine rd1 6 (by kernel_rfl) rfl (fun K hK=> ?_);go_simp;go_wp2_with (go_at_call 72;(with_reducible refine mo2 w (jaV p p HZ.out (HQ.out.below bi) (HM.out.below bi) HSI.out HSM.out (by have:=HP.out;omega)) (by go_size) fun w1 hb1 hc1 hf1 z1_0 z1_1 _=> ?_))
    have sS1:=qh (bst bq0 hb1);refine hK.out _ _ (fun _=>sS1.out) ?_;clear hK K;refine rd1 7 (by kernel_rfl) rfl (fun K hK=> ?_);go_simp;refine hK.out _ _ (fun _=>bi) ?_;clear hK K;refine ja2 (by kernel_rfl) ?_ _;go_wp2
    ·rw [if_pos (show z > 0 by omega)] at HC2;obtain ⟨hq1,hq2⟩:=HQ.out;exact ⟨⟨i+1,x,si,Ai,ni,ci,ti,Bi,mi,di,by simp,bi,by omega,HI.out,(by simp;exact z1_1),by simp [go_sem,hc1,z1_0,z1_1,hsz,hsz0,hf1,e0,e1,e2,e3,e4,e5,e6,e7,f0,f1],by simp [go_sem,hc1,z1_0,z1_1,hsz,hsz0,hf1,e0,e1,e2,e3,e4,e5,e6,e7,f0,f1],by simp [go_sem,hc1,z1_0,z1_1,hsz,hsz0,hf1,e0,e1,e2,e3,e4,e5,e6,e7,f0,f1],by simp [go_sem,hc1,z1_0,z1_1,hsz,hsz0,hf1,e0,e1,e2,e3,e4,e5,e6,e7,f0,f1],by simp [go_sem,hc1,z1_0,z1_1,hsz,hsz0,hf1,e0,e1,e2,e3,e4,e5,e6,e7,f0,f1],by simp [go_sem,hc1,z1_0,z1_1,hsz,hsz0,hf1,e0,e1,e2,e3,e4,e5,e6,e7,f0,f1],by simp [go_sem,hc1,z1_0,z1_1,hsz,hsz0,hf1,e0,e1,e2,e3,e4,e5,e6,e7,f0,f1],by simp [go_sem,hc1,z1_0,z1_1,hsz,hsz0,hf1,e0,e1,e2,e3,e4,e5,e6,e7,f0,f1],by intro o;simp [go_sem,hc1,z1_0,z1_1,hsz,hsz0,hf1,f0,f1],by intro o;simp [go_sem,hc1,z1_0,z1_1,hsz,hsz0,hf1,f0,f1],⟨(by with_reducible repeat first|assumption|apply rZ|refine rP ?_ rfl (by simp [go_sem,hc1,z1_0,z1_1,hsz,hsz0,hf1,e0,e1,e2,e3,e4,e5,e6,e7,f0,f1])),(by with_reducible repeat first|assumption|apply rZ|refine rP ?_ rfl (by simp [go_sem,hc1,z1_0,z1_1,hsz,hsz0,hf1,e0,e1,e2,e3,e4,e5,e6,e7,f0,f1]))⟩,HSI.out,HC2.out⟩,by have:=HI.out;simp [intOf];omega⟩
    ·rw [if_neg (show ¬z > 0 by omega)] at HC2;exact ⟨⟨i+1,m,sm,Am,nm,cm,tm,Bm,mm,dm,by simp,bi,by omega,HI.out,z1_1,by simp [go_sem,hc1,z1_0,z1_1,hsz,hsz0,hf1,e0,e1,e2,e3,e4,e5,e6,e7,f0,f1],by simp [go_sem,hc1,z1_0,z1_1,hsz,hsz0,hf1,e0,e1,e2,e3,e4,e5,e6,e7,f0,f1],by simp [go_sem,hc1,z1_0,z1_1,hsz,hsz0,hf1,e0,e1,e2,e3,e4,e5,e6,e7,f0,f1],by simp [go_sem,hc1,z1_0,z1_1,hsz,hsz0,hf1,e0,e1,e2,e3,e4,e5,e6,e7,f0,f1],by simp [go_sem,hc1,z1_0,z1_1,hsz,hsz0,hf1,e0,e1,e2,e3,e4,e5,e6,e7,f0,f1],by simp [go_sem,hc1,z1_0,z1_1,hsz,hsz0,hf1,e0,e1,e2,e3,e4,e5,e6,e7,f0,f1],by simp [go_sem,hc1,z1_0,z1_1,hsz,hsz0,hf1,e0,e1,e2,e3,e4,e5,e6,e7,f0,f1],by simp [go_sem,hc1,z1_0,z1_1,hsz,hsz0,hf1,e0,e1,e2,e3,e4,e5,e6,e7,f0,f1],by intro o;simp [go_sem,hc1,z1_0,z1_1,hsz,hsz0,hf1,f0,f1],by intro o;simp [go_sem,hc1,z1_0,z1_1,hsz,hsz0,hf1,f0,f1],HM.out.below bi,HSM.out,HC2.out⟩,by have:=HI.out;simp [intOf];omega⟩
   ·have q1:decide (i < n)=false:=by simp;omega
    have hR:m=R:=by
     have h2:=HC.out;rw [List.drop_eq_nil_of_le (by rw [HLEN.out];omega)] at h2;exact h2
    subst hR;clear hi HR HC;obtain ⟨hq1,hq2⟩:=HM.out;go_wp2;exact bodyPost_ret (v:= .agg #[.int .i64 (sm), .slice (Am) (nm) (cm), .int .i64 (tm), .slice (Bm) (mm) (dm)]) (by simp [results,Tryz.results118,go_sem,hsz,hsz0,e0,e1,e2,e3,f0,f1]) rfl (jap rfl ⟨(by with_reducible repeat first|assumption|apply rZ|refine rP ?_ rfl (by simp [go_sem,hsz,hsz0,e0,e1,e2,e3,f0,f1])),(by with_reducible repeat first|assumption|apply rZ|refine rP ?_ rfl (by simp [go_sem,hsz,hsz0,e0,e1,e2,e3,f0,f1]))⟩ bi)
theorem joC {r:Rat} (h:Qv w A n qs) (h0:0 < n) (hn:n≤100000) (hs:∀q∈qs,Sz p q) (hp:p≤20000) (hr:jly (qs.getD 0 0) (qs.drop 1)=r):
  Calls Tryz.prog 69 #[.slice A n c] w (jad r w):=by
 subst hr;obtain ⟨R,hR⟩:∃R,jly (qs.getD 0 0) (qs.drop 1)=R:=⟨_,rfl⟩;have HM:Hid (∀W,Below w.heap.size w W→Calls Tryz.prog 117 #[.slice A n c, .func (.func 72) #[] #[]] W (jad R W)):=qh (fun W hb=>hR ▸ jlO (h.below hb) h0 hn hs hp);rw [hR];clear h h0 hn hs hp hR;go_enter Tryz.func69,Tryz.ntmps69;go_wp2_with (go_at_call 117;(with_reducible refine mf1 w (HM.out _ bi) (by go_size) fun w1 s1 A1 n1 c1 t1 B1 m1 d1 hr1 hq1 hb1 hc1 hf1 z1_0 _=> ?_))
 exact bodyPost_ret (v:= .agg #[.int .i64 (s1), .slice (A1) (n1) (c1), .int .i64 (t1), .slice (B1) (m1) (d1)]) (by simp [results,Tryz.results69,go_sem,hc1,z1_0,hf1]) rfl (jap rfl ⟨(by with_reducible repeat first|assumption|apply rZ|refine rP ?_ rfl (by simp [go_sem,hc1,z1_0,hf1])),(by with_reducible repeat first|assumption|apply rZ|refine rP ?_ rfl (by simp [go_sem,hc1,z1_0,hf1]))⟩ bi)
theorem joE {r:Rat} (h:Qv w A n qs) (h0:0 < n) (hn:n≤100000) (hs:∀q∈qs,Sz p q) (hp:p≤20000) (hr:jmS (qs.getD 0 0) (qs.drop 1)=r):
  Calls Tryz.prog 70 #[.slice A n c] w (jad r w):=by
 subst hr;obtain ⟨R,hR⟩:∃R,jmS (qs.getD 0 0) (qs.drop 1)=R:=⟨_,rfl⟩;have HM:Hid (∀W,Below w.heap.size w W→Calls Tryz.prog 118 #[.slice A n c, .func (.func 72) #[] #[]] W (jad R W)):=qh (fun W hb=>hR ▸ jmu (h.below hb) h0 hn hs hp);rw [hR];clear h h0 hn hs hp hR;go_enter Tryz.func70,Tryz.ntmps70;go_wp2_with (go_at_call 118;(with_reducible refine mf1 w (HM.out _ bi) (by go_size) fun w1 s1 A1 n1 c1 t1 B1 m1 d1 hr1 hq1 hb1 hc1 hf1 z1_0 _=> ?_))
 exact bodyPost_ret (v:= .agg #[.int .i64 (s1), .slice (A1) (n1) (c1), .int .i64 (t1), .slice (B1) (m1) (d1)]) (by simp [results,Tryz.results70,go_sem,hc1,z1_0,hf1]) rfl (jap rfl ⟨(by with_reducible repeat first|assumption|apply rZ|refine rP ?_ rfl (by simp [go_sem,hc1,z1_0,hf1])),(by with_reducible repeat first|assumption|apply rZ|refine rP ?_ rfl (by simp [go_sem,hc1,z1_0,hf1]))⟩ bi)
end
end Go.Proofs.YteokfcjdfjhhhaaGreatDoor
