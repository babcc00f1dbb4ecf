/- Parts. -/
import Derived.Test.YteokfcjdfjhhhaaGreatDoorMw
set_option linter.all false
set_option maxRecDepth 100000
set_option maxHeartbeats 8000000
namespace Go.Proofs.YteokfcjdfjhhhaaGreatDoor
open Go Go.RowKit

def jcV (qs:List Rat) (ws:List Int):Nat→Rat
 | 0=>0
 | i+1=>jcV qs ws i+qs.getD i 0*((ws.getD i 0:Int):Rat)
theorem jj3 {p n:Nat} {qs:List Rat} {ws:List Int} (hq:∀j,j < n→Sz p (qs.getD j 0)) (hw:∀j,j < n→R64 (ws.getD j 0)):∀i,i≤n→Sz (i*(p+2)+1) (jcV qs ws i)
 | 0,_=>by rw [jcV];exact (jdG (a:=0) ⟨by decide,by decide⟩).mono (by omega)
 | i+1,h=>by
   rw [jcV];exact ((jj3 hq hw i (by omega)).add ((hq i h).mul (jdG (hw i h)))).mono (by rw [Nat.add_mul];omega)
theorem jd8 {w:World} {a:Int} (h:SmallQ (a:Rat)):Calls Tryz.prog 29 #[.int .i64 a] w fun e w'=>e= .returned (fq (a:Rat))∧Below w.heap.size w w':=
 (jeV rfl ⟨by have:=h.lo;simp at this;omega,by have:=h.hi;simp at this;omega⟩).mono fun _ _ k=>h.post k
theorem jcE {a:Int} (h0: -9223372036854775808 < a) (h1:a < 9223372036854775808):SmallQ (a:Rat):=⟨by simpa using h0,by simpa using h1,by simp⟩
section
variable {w:World} {A B:Option Addr} {n c d p:Nat} {qs:List Rat} {ws:List Int} {s:Int}
theorem jj4 {z:Rat} (h:Qv w A n qs) (hw:Iv w B n ws) (hn:n≤256) (hs:∀j,j < n→Sz p (qs.getD j 0)) (hp:p≤100) (hws:∀j,j < n→0≤ws.getD j 0∧ws.getD j 0≤999999999) (hs0:0 < s) (hs1:s < 9223372036854775808)
  (hz:jcV qs ws n / (s:Rat)=z):
  Calls Tryz.prog 74 #[.slice A n c, .slice B n d, .int .i64 s] w (jad z w):=by
 have HQ:=qh h;have HW:=qh hw;have HN:=qh hn;have HS:=qh hs;have HP:=qh hp;have HWS:=qh hws;have HZ:=qh hz;have HS0:=qh hs0;have H0:Hid (SmallQ ((0:Int):Rat)):=qh (jcE (by decide) (by decide));have HSS:Hid (SmallQ (s:Rat)):=qh (jcE (by omega) hs1);have HSZ:Hid (∀i,i≤n→Sz (i*(p+2)+1) (jcV qs ws i)):=qh (jj3 hs (fun j hj=>by have:=hws j hj;exact ⟨by omega,by omega⟩))
 have HNP:Hid (∀i,i≤n→i*(p+2)+1≤27000):=qh (fun i hi=>by
  have:i*(p+2)≤256*102:=Nat.mul_le_mul (by omega) (by omega)
  omega)
 clear h hw hn hs hp hws hz hs0 hs1;go_enter Tryz.func74,Tryz.ntmps74;go_upto_region 2 with ((go_at_call 29;(with_reducible refine mo1 w (jd8 H0.out) (by go_size) fun w1 hb1 hc1 hf1 z1_0 _=> ?_)))
 have hg1:Below w.heap.size w w1:=bi;have hle:w.heap.size≤w1.heap.size:=hg1.size;have hlt:w.heap.size < w1.heap.size:=by have:=hb1.size;simp at this;omega
 have hne:=nl hlt;go_wp2_with (fail)
 go_loopw [13] (fun u wr=>∃(i:Nat) (sm:Int) (Am:Option Addr) (nm cm:Nat) (tm:Int) (Bm:Option Addr) (mm dm:Nat),u= .int .i64 (i:Int)∧Below w.heap.size w wr∧i≤n∧w.heap.size < wr.heap.size∧w1.heap.size < wr.heap.size
   ∧wr.cell? ⟨w.heap.size,0,none⟩=some (.int .i64 0)∧wr.cell? ⟨w.heap.size,1,none⟩=some (.slice none 0 0)∧wr.cell? ⟨w.heap.size,2,none⟩=some (.int .i64 0)∧wr.cell? ⟨w.heap.size,3,none⟩=some (.slice none 0 0)
   ∧wr.cell? ⟨w1.heap.size,0,none⟩=some (.int .i64 sm)∧wr.cell? ⟨w1.heap.size,1,none⟩=some (.slice Am nm cm)∧wr.cell? ⟨w1.heap.size,2,none⟩=some (.int .i64 tm)∧wr.cell? ⟨w1.heap.size,3,none⟩=some (.slice Bm mm dm)
   ∧(∀o,wr.frozen? ⟨w.heap.size,o,none⟩=false)∧(∀o,wr.frozen? ⟨w1.heap.size,o,none⟩=false)
   ∧RepF wr sm Am nm cm tm Bm mm dm (jcV qs ws i)) (fun u _=>n - (intOf u).toNat)
 case atStart=>
  exact ⟨0,0,none,0,0,1,none,0,0,rfl,bi,Nat.zero_le _,by simp;omega,by simp,by simp [go_sem,hc1,z1_0,hle,hlt,hne,nls hlt],by simp [go_sem,hc1,z1_0,hle,hlt,hne,nls hlt],by simp [go_sem,hc1,z1_0,hle,hlt,hne,nls hlt],by simp [go_sem,hc1,z1_0,hle,hlt,hne,nls hlt],by simp [go_sem],by simp [go_sem],by simp [go_sem],by simp [go_sem],by intro o;simp [go_sem,hf1,z1_0,hle,hlt,hne],by intro o;simp [go_sem],H0.out.rep _⟩
 case round=>
  obtain ⟨i,sm,Am,nm,cm,tm,Bm,mm,dm,rfl,hb,hin,hsz0,hszg,e0,e1,e2,e3,e4,e5,e6,e7,f0,f1,hrm⟩:=hrel;have _:=bm hb;have HM:=qh hrm;clear hrm;by_cases hi:i < n
  ·have q1:decide ((i:Int) < (n:Int))=true:=by simp;exact hi
   have hnn:=HN.out;obtain ⟨b,o,rfl,hbl,hat⟩:=(HQ.out.below hb).at_ (by omega);obtain ⟨si,Ai,ni,ci,ti,Bi,mi,di,k4,k5,k6,k7,kr⟩:=(hat i hi).at_;obtain ⟨b',o',rfl,hbl',hat'⟩:=(HW.out.below hb).at_ (by omega);have k8:=hat' i hi;have HX:=qh kr;have HSI:=qh (HS.out i hi);have HWI:=qh (HWS.out i hi);have HZ1:Hid (jcV qs ws i+qs.getD i 0*((ws.getD i 0:Int):Rat)=jcV qs ws (i+1)):=qh (by rw [jcV]);have HSM:=qh (HSZ.out i hin);have HIN:=qh (HNP.out i hin);obtain ⟨x,hx⟩:∃x,qs.getD i 0=x:=⟨_,rfl⟩;obtain ⟨v,hv⟩:∃v,ws.getD i 0=v:=⟨_,rfl⟩;obtain ⟨m,hm⟩:∃m,jcV qs ws i=m:=⟨_,rfl⟩;obtain ⟨m2,hm2⟩:∃m,jcV qs ws (i+1)=m:=⟨_,rfl⟩;rw [hx] at HX HSI HZ1;rw [hv] at HWI HZ1 k8;rw [hm] at HM HZ1 HSM;rw [hm2] at HZ1;have HM2:=qh hm2;have HSV:Hid (SmallQ ((v:Int):Rat)):=qh (jcE (by have:=HWI.out;omega) (by have:=HWI.out;omega));have HI:=qh hi;clear hat hat' kr hx hv hm hm2 hi;go_upto_region 5 with (fail)
   refine ja3 (fun w'=>Below (wr.alloc (.cells #[.int .i64 si, .slice Ai ni ci, .int .i64 ti, .slice Bi mi di] 71)).heap.size (wr.alloc (.cells #[.int .i64 si, .slice Ai ni ci, .int .i64 ti, .slice Bi mi di] 71)) w') [9] (by kernel_rfl) ?_;refine tb 0 (fv sm Am nm cm tm Bm mm dm) [8] rfl (by kernel_rfl) pk rfl (by intros;go_simp) bq0 ?_;refine tb 1 (fv si Ai ni ci ti Bi mi di) [7] rfl (by kernel_rfl) pk rfl (by intros;go_simp) bq0 ?_;refine tb 2 (.slice (some ⟨b',o',none⟩) n d) [4] rfl (by kernel_rfl) pk rfl (by intros;go_simp) bq0 ?_;refine tb 3 (.int .i64 (i:Int)) [4] rfl (by kernel_rfl) pk rfl (by intros;go_simp) bq0 ?_;refine tb 4 (.pointer (some ⟨b',o'+i,none⟩)) [5] rfl (by kernel_rfl) pk rfl (by intros;go_simp) bq0 ?_;refine tb 5 (.int .i64 v) [6] rfl (by kernel_rfl) pk rfl (by intros;go_simp) bq0 ?_;simp only [ppq];refine rd1 6 (by kernel_rfl) rfl (fun K hK=> ?_);go_simp;go_wp2_with (go_at_call 29;(with_reducible refine mo0 (jd8 HSV.out) fun w6 hb6 hc6 hf6 _=> ?_))
   have sS6:=qh (bst bq0 hb6);refine hK.out _ _ (fun _=>sS6.out) ?_;clear hK K;refine rd1 7 (by kernel_rfl) rfl (fun K hK=> ?_);go_simp;go_wp2_with (go_at_call 40;(with_reducible refine mf0 (jaI p 1 rfl (HX.out.below bi) (HSV.out.rep _) HSI.out HSV.out.sz (by have:=HP.out;omega)) fun w7 s7 A7 n7 c7 t7 B7 m7 d7 hr7 hq7 hb7 hc7 hf7 _=> ?_))
   have sS7:=qh (bst sS6.out hb7);refine hK.out _ _ (fun _=>sS7.out) ?_;clear hK K;refine rd1 8 (by kernel_rfl) rfl (fun K hK=> ?_);go_simp;go_wp2_with ((go_at_call 33;(with_reducible refine mf0 (jdB (i*(p+2)+1) (p+1) HZ1.out (HM.out.below bi) ⟨hr7,hq7⟩ HSM.out (HSI.out.mul HSV.out.sz) (by have:=HP.out;have:=HIN.out;omega)) fun w8 s8 A8 n8 c8 t8 B8 m8 d8 hr8 hq8 hb8 hc8 hf8 _=> ?_));(first|have y8_0:=szl (k:=w1.heap.size) hb8 (by first|go_size|fail)|have y8_0:=Nat.one_pos);(first|have y8_1:=szl (k:=w.heap.size) hb8 (by first|go_size|fail)|have y8_1:=Nat.one_pos))
   have sS8:=qh (bst sS7.out hb8);refine hK.out _ _ (fun _=>sS8.out) ?_;clear hK K;have bW8:Below wr.heap.size wr w8:=bi;have k80:=ja5 bW8 e0;have k81:=ja5 bW8 e1;have k82:=ja5 bW8 e2;have k83:=ja5 bW8 e3;have k84:=ja5 bW8 e4;have k85:=ja5 bW8 e5;have k86:=ja5 bW8 e6;have k87:=ja5 bW8 e7;have kf0:∀o,w8.frozen? ⟨w.heap.size,o,none⟩=false:=fun o=>(jaE bW8 hsz0 f0) o
   have kf1:∀o,w8.frozen? ⟨w1.heap.size,o,none⟩=false:=fun o=>(jaE bW8 hszg f1) o
   have z80:=Nat.lt_of_lt_of_le hsz0 bW8.size;have z81:=Nat.lt_of_lt_of_le hszg bW8.size;refine rd1 9 (by kernel_rfl) rfl (fun K hK=> ?_);go_simp;refine hK.out _ _ (fun h=>(h (by decide)).elim) ?_;clear hK K;refine ja2 (by kernel_rfl) ?_ _;go_wp2;exact ⟨⟨i+1,s8,A8,n8,c8,t8,B8,m8,d8,by simp,bi,HI.out,by simp;exact z80,by simp;exact z81,by simp [go_sem,k80,k81,k82,k83,k84,k85,k86,k87,hne],by simp [go_sem,k80,k81,k82,k83,k84,k85,k86,k87,hne],by simp [go_sem,k80,k81,k82,k83,k84,k85,k86,k87,hne],by simp [go_sem,k80,k81,k82,k83,k84,k85,k86,k87,hne],by simp [go_sem,k80,k81,k82,k83,k84,k85,k86,k87,hne],by simp [go_sem,k80,k81,k82,k83,k84,k85,k86,k87,hne],by simp [go_sem,k80,k81,k82,k83,k84,k85,k86,k87,hne],by simp [go_sem,k80,k81,k82,k83,k84,k85,k86,k87,hne],by intro o;simp [go_sem,kf0],by intro o;simp [go_sem,kf1],by rw [HM2.out];exact ⟨(by with_reducible repeat first|assumption|apply rZ|refine rP ?_ rfl (by simp [go_sem,k84,k85,k86,k87])),(by with_reducible repeat first|assumption|apply rZ|refine rP ?_ rfl (by simp [go_sem,k84,k85,k86,k87]))⟩⟩,by have:=HI.out;simp [intOf];omega⟩
  ·have q1:decide (i < n)=false:=by simp;omega
   have e:i=n:=by omega
   subst e;have HIN:=qh (HNP.out i hin);clear hi hin;go_upto_region 7 with (fail)
   refine ja3 (fun w'=>Below wr.heap.size wr w') [4] (by kernel_rfl) ?_;refine tb 0 (fv sm Am nm cm tm Bm mm dm) [3] rfl (by kernel_rfl) pk rfl (by intros;go_simp) bq0 ?_;refine tb 1 (.int .i64 s) [2] rfl (by kernel_rfl) pk rfl (by intros;go_simp) bq0 ?_;simp only [ppq];refine rd1 2 (by kernel_rfl) rfl (fun K hK=> ?_);go_simp;go_wp2_with (go_at_call 29;(with_reducible refine mo0 (jd8 HSS.out) fun w2 hb2 hc2 hf2 _=> ?_))
   have sS2:=qh (bst bq0 hb2);refine hK.out _ _ (fun _=>sS2.out) ?_;clear hK K;refine rd1 3 (by kernel_rfl) rfl (fun K hK=> ?_);go_simp;go_wp2_with (go_at_call 44;(with_reducible refine mf0 (jc1 (i*(p+2)+1) 1 HZ.out (HM.out.below bi) (HSS.out.rep _) (HSZ.out i (Nat.le_refl _)) HSS.out.sz (by have:=HIN.out;omega) (by have:=HS0.out;simp;omega)) fun w3 s3 A3 n3 c3 t3 B3 m3 d3 hr3 hq3 hb3 hc3 hf3 _=> ?_))
   have sS3:=qh (bst sS2.out hb3);refine hK.out _ _ (fun _=>sS3.out) ?_;clear hK K;have bW3:Below wr.heap.size wr w3:=bi;have k30:=ja5 bW3 e0;have k31:=ja5 bW3 e1;have k32:=ja5 bW3 e2;have k33:=ja5 bW3 e3;have kf0:∀o,w3.frozen? ⟨w.heap.size,o,none⟩=false:=fun o=>(jaE bW3 hsz0 f0) o
   refine rd1 4 (by kernel_rfl) rfl (fun K hK=> ?_);go_simp;refine hK.out _ _ (fun h=>(h (by decide)).elim) ?_;clear hK K;refine ja2 (by kernel_rfl) ?_ _;go_wp2;exact bodyPost_ret (v:= .agg #[.int .i64 (s3), .slice (A3) (n3) (c3), .int .i64 (t3), .slice (B3) (m3) (d3)]) (by simp [results,Tryz.results74,go_sem,k30,k31,k32,k33,kf0]) rfl (jap rfl ⟨(by with_reducible repeat first|assumption|apply rZ|refine rP ?_ rfl (by simp [go_sem,k30,k31,k32,k33])),(by with_reducible repeat first|assumption|apply rZ|refine rP ?_ rfl (by simp [go_sem,k30,k31,k32,k33]))⟩ bi)
end

section
variable {w:World} {A B:Option Addr} {n c d:Nat} {ls:List (List UInt8×List UInt8)} {los his:List Rat} {ws:List Int} {s:Int}
theorem jnt {zl zh:Rat} {tl th:List UInt8} {ke:Int} (hE:Env w) (h:SpIn w A n ls los his) (hw:Iv w B n ws) (hcw:cw ws=(s,0)) (hws:∀j,j < n→0≤ws.getD j 0∧ws.getD j 0≤999999999) (hs0:0 < s) (hs1:s < 9223372036854775808)
  (hl:jcV los ws n / (s:Rat)=zl) (hh:jcV his ws n / (s:Rat)=zh) (hSl:StrQ zl) (hSh:StrQ zh) (htl:jqS zl zh=tl) (hth:jpL zl zh=th) (hke:jqM zl zh=ke):
  Calls Tryz.prog 22 #[.slice A n c, .slice B n d] w fun e w'=>e= .returned (.tuple #[sp tl th, .int .i64 ke])∧Below w.heap.size w w':=by
 have HE:=qh hE;have HS:=qh h;have HN:=qh h.le;have HW:=qh hw;have HWS:=qh hws;have HS0:=qh hs0;have HS1:=qh hs1;have HZL:=qh hl;have HZH:=qh hh;have HSL:=qh hSl;have HSH:=qh hSh;have HTL:=qh htl;have HTH:=qh hth;have HKE:=qh hke;have HPL:Hid (∀j,j < n→Sz 2 (los.getD j 0)):=qh (fun j hj=>(h.num j hj).2.2.1);have HPH:Hid (∀j,j < n→Sz 2 (his.getD j 0)):=qh (fun j hj=>(h.num j hj).2.2.2)
 have HCW:Hid (∀W,Below w.heap.size w W→Calls Tryz.prog 73 #[.slice B n d] W fun e w'=>e= .returned (.tuple #[.int .i64 s, .int .i64 0])∧Below W.heap.size W w'):=qh (fun W hb=>by
  have:=jcf (c:=d) (hw.below hb) (show n≤100000 by have:=h.le;omega)
  rwa [hcw] at this)
 clear hE h hw hcw hws hs0 hs1 hl hh hSl hSh htl hth hke;go_enter Tryz.func22,Tryz.ntmps22
 go_upto_region 9 with (first
  | (go_at_call 71;((with_reducible refine (jj2 (HE.out.below bi) (HS.out.below bi)).mono ?_);rintro e1 w1 ⟨A1,c1,A2,c2,rfl,hv1,hv2,hb1⟩;have _:=bm hb1);obtain ⟨hc1,hf1,z1_0,_⟩:=bc1 w hb1 (by go_size))
  | (go_at_call 73;(with_reducible refine mo1 w (HCW.out _ bi) (by go_size) fun w2 hb2 hc2 hf2 z2_0 _=> ?_)))
 have HV1:=qh hv1;have HV2:=qh hv2;clear hv1 hv2
 go_wp2_with (first
  | ((go_at_call 74;(with_reducible refine mf1 w (jj4 (HV1.out.below bi) (HW.out.below bi) HN.out HPL.out (by omega) HWS.out HS0.out HS1.out HZL.out) (by go_size) fun w3 s3 A3 n3 c3 t3 B3 m3 d3 hr3 hq3 hb3 hc3 hf3 z3_0 _=> ?_)))
  | ((go_at_call 74;(with_reducible refine mf1 w (jj4 (HV2.out.below bi) (HW.out.below bi) HN.out HPH.out (by omega) HWS.out HS0.out HS1.out HZH.out) (by go_size) fun w4 s4 A4 n4 c4 t4 B4 m4 d4 hr4 hq4 hb4 hc4 hf4 z4_0 _=> ?_)))
  | (go_at_call 68;(with_reducible refine mo1 w (jfQ HTL.out HTH.out HKE.out (HE.out.below bi) ⟨(by with_reducible repeat first|assumption|apply rZ|refine rP ?_ rfl (by simp [go_sem,hc4])),(by with_reducible repeat first|assumption|apply rZ|refine rP ?_ rfl (by simp [go_sem,hc4]))⟩ ⟨hr4,hq4⟩ HSL.out HSH.out) (by go_size) fun w5 hb5 hc5 hf5 z5_0 _=> ?_)))
 exact bodyPost_ret (v:= .tuple #[sp tl th, .int .i64 ke]) (by simp [results,Tryz.results22,go_sem,hc1,hc2,hc3,hc4,hc5,hf1,hf2,hf3,hf4,hf5,z1_0,z2_0,z3_0,z4_0,z5_0]) rfl ⟨rfl,bi⟩
end
end Go.Proofs.YteokfcjdfjhhhaaGreatDoor
