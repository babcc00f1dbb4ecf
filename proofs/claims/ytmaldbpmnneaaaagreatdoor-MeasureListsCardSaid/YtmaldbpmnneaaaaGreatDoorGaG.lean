/- Parts. -/
import Derived.Test.YtmaldbpmnneaaaaGreatDoorLfG
import Derived.Test.YtmaldbpmnneaaaaGreatDoorJcG
set_option linter.all false
set_option maxRecDepth 100000
set_option maxHeartbeats 8000000
namespace Go.Proofs.YtmaldbpmnneaaaaGreatDoor
open Go Go.RowKit

theorem jrC {x y:Rat}:Rq.cmpQ x y≤0↔x≤y:=by
 rw [←Rat.not_lt,←Rq.cmp_pos];omega
section
variable {w:World} {x lo hi:Rat} {k:Nat}
end
section
variable {w:World} {A:Option Addr} {n c:Nat} {ls:List (List UInt8×List UInt8)} {d m:Int}
end
section
variable {w:World} {lo hi:Rat} {k:Nat}
end
def jdD (ws:List Int):Nat→Int
 | 0=>0
 | i+1=>jdD ws i+ws.getD i 0
theorem je7 {k n:Nat} {qs:List Rat} {ws:List Int} (hq:∀j,j < n→Dz k (qs.getD j 0)) (hw:∀j,j < n→0≤ws.getD j 0∧ws.getD j 0≤999999999):∀i,i≤n→Dz (i*(k+10)+1) (jaZ qs ws i)
 | 0,_=>by rw [jaZ];exact (show Dz 1 (0:Rat) from ⟨by decide+kernel,by decide+kernel⟩).mono (by omega)
 | i+1,h=>by
   rw [jaZ]
   have d9:Dz 9 ((ws.getD i 0:Int):Rat):=by
    have:=hw i h
    exact ⟨by rw [Rat.num_intCast];omega,by rw [Rat.den_intCast];omega⟩
   exact ((je7 hq hw i (by omega)).add ((hq i h).mul d9)).mono (by rw [Nat.add_mul];omega)
theorem jiy {n:Nat} {ws:List Int} (hw:∀j,j < n→0≤ws.getD j 0∧ws.getD j 0≤999999999):∀i,i≤n→0≤jdD ws i∧jdD ws i≤999999999*(i:Int)
 | 0,_=>by rw [jdD];omega
 | i+1,h=>by
   rw [jdD]
   have:=hw i h
   have:=jiy hw i (by omega)
   omega
theorem jhn {w:World} {z:Int} (h0:0≤z) (h1:z < 9223372036854775808):Calls Tryz.prog 86 #[.int .i64 z] w (QP (z:Rat) w):=by
 obtain ⟨n,rfl⟩:∃n:Nat,z=(n:Int):=⟨z.toNat,by omega⟩
 exact jlX (by omega)
section
variable {w:World} {A B:Option Addr} {n c d k:Nat} {ls:List (List UInt8)} {qs:List Rat} {ws:List Int}
theorem jhh {z:Rat} (hs:Sv w A n ls) (hw:Iv w B n ws) (hn:n≤12) (hl:∀j,j < n→ls.getD j []=tq (qs.getD j 0)) (hq:∀j,j < n→Dz k (qs.getD j 0)) (hk:0 < k) (hk2:k≤600)
  (hws:∀j,j < n→0≤ws.getD j 0∧ws.getD j 0≤999999999) (h0:jdD ws n≠0) (hz:jaZ qs ws n / ((jdD ws n:Int):Rat)=z):
  Calls Tryz.prog 41 #[.slice A n c, .slice B n d] w (QP z w):=by
 have HS:=qh hs
 have HW:=qh hw
 have HN:=qh hn
 have HL:=qh hl
 have HQ:=qh hq
 have HK:=qh (And.intro hk hk2)
 have HWS:=qh hws
 have HD:=qh (je7 hq hws)
 have HT:=qh (jiy hws)
 have H0:=qh h0
 have HZ:=qh hz
 have HB:Hid (∀i,i≤n→i*(k+10)+1≤8000):=qh (fun i hi=>by
  have:i*(k+10)≤12*610:=Nat.mul_le_mul (by omega) (by omega)
  omega)
 clear hs hw hn hl hq hk hk2 hws h0 hz
 go_enter Tryz.func41,Tryz.ntmps41
 go_wp2
 go_loopw [5,6,7] (fun u1 u2 u wr=>∃(i:Nat),u= .int .i64 (i:Int)∧u1=bs (tq (jaZ qs ws i))∧u2= .int .i64 (jdD ws i)∧i≤n∧Below w.heap.size w wr) (fun _ _ u _=>n - (intOf u).toNat)
 case atStart=>exact ⟨0,rfl,by rw [jaZ,show tq (0:Rat)=[48] by decide+kernel],by rw [jdD],Nat.zero_le _,bi⟩
 case round=>
  obtain ⟨i,rfl,rfl,rfl,hin,hb⟩:=hrel
  have _:=bm hb
  have hnn:=HN.out
  by_cases hi:i < n
  ·have p0:decide (i < n)=true:=by simpa using hi
   obtain ⟨b,o,rfl,hbl,hat⟩:=(HS.out.below hb).at_ (by omega)
   obtain ⟨b',o',rfl,hbl',hat'⟩:=(HW.out.below hb).at_ (by omega)
   have k8:=hat i hi
   have k9:=hat' i hi
   rw [HL.out i hi] at k8
   have HQI:=qh (HQ.out i hi)
   have HWI:=qh (HWS.out i hi)
   have HDI:=qh (HD.out i hin)
   have HTI:=qh (HT.out i hin)
   have HTJ:=qh (HT.out (i+1) hi)
   have hs1:Hid (jaZ qs ws i+qs.getD i 0*((ws.getD i 0:Int):Rat)=jaZ qs ws (i+1)):=qh (by rw [jaZ])
   have ht1:Hid (jdD ws i+ws.getD i 0=jdD ws (i+1)):=qh (by rw [jdD])
   obtain ⟨x,hx⟩:∃x,qs.getD i 0=x:=⟨_,rfl⟩
   obtain ⟨v,hv⟩:∃v,ws.getD i 0=v:=⟨_,rfl⟩
   obtain ⟨m,hm⟩:∃m,jaZ qs ws i=m:=⟨_,rfl⟩
   obtain ⟨m2,hm2⟩:∃m,jaZ qs ws (i+1)=m:=⟨_,rfl⟩
   obtain ⟨g,hg⟩:∃m,jdD ws i=m:=⟨_,rfl⟩
   obtain ⟨g2,hg2⟩:∃m,jdD ws (i+1)=m:=⟨_,rfl⟩
   rw [hx] at HQI k8 hs1
   rw [hv] at HWI k9 hs1 ht1
   rw [hm] at HDI hs1
   rw [hm2] at hs1
   rw [hg] at HTI ht1
   rw [hg2] at HTJ ht1
   rw [hm,hg]
   have HM2:=qh hm2
   have HG2:=qh hg2
   have hkk:=HK.out
   have hbb:=HB.out i hin
   have d9:Dz 9 ((v:Int):Rat):=by
    have:=HWI.out
    exact ⟨by rw [Rat.num_intCast];omega,by rw [Rat.den_intCast];omega⟩
   have HF:=qh (fun W=>jhn (w:=W) HWI.out.1 (by have:=HWI.out;omega))
   have HMU:=qh (fun W=>joZ (w:=W) HQI.out d9 (by omega) (by omega) (by omega) (by omega))
   have HA:=qh (fun W=>jp6 (w:=W) HDI.out (HQI.out.mul d9) (by omega) (by omega) (by omega) (by omega))
   rw [hs1.out] at HA
   unfold QP at HF HMU HA
   have m1:IntKind.i64.wrap (g+v)=g2:=by
    have:=ht1.out;have:=HTI.out;have:=HTJ.out;have:=HWI.out
    rw [IntKind.wrap_i64];omega
   have wg1:wrap64 (g+v)=g2:=by
    have:=ht1.out;have:=HTI.out;have:=HTJ.out;have:=HWI.out
    unfold wrap64;omega
   obtain ⟨X,hX⟩:∃X,tq x=X:=⟨_,rfl⟩
   obtain ⟨Y,hY⟩:∃X,tq ((v:Int):Rat)=X:=⟨_,rfl⟩
   obtain ⟨Z,hZ⟩:∃X,tq (x*((v:Int):Rat))=X:=⟨_,rfl⟩
   obtain ⟨S,hS⟩:∃X,tq m=X:=⟨_,rfl⟩
   obtain ⟨R,hR⟩:∃X,tq m2=X:=⟨_,rfl⟩
   rw [hY] at HF
   rw [hX,hY,hZ] at HMU
   rw [hS,hZ,hR] at HA
   rw [hX] at k8
   rw [hS]
   have HR:=qh hR
   have HI:=qh hi
   clear hat hat' hx hv hm hm2 hg hg2 hX hY hZ hS hR d9 hkk hbb
   go_upto_region 5 with (fail)
   refine ja3 (fun w'=>Below wr.heap.size wr w') [] (by kernel_rfl) ?_
   refine tb 0 (bs S) [] rfl (by kernel_rfl) pk rfl (by intros;go_simp) bq0 ?_
   simp only [ppq]
   refine tb 1 (.slice (some ⟨b,o,none⟩) n c) [] rfl (by kernel_rfl) pk rfl (by intros;go_simp) bq0 ?_
   simp only [ppq]
   refine tb 2 (.int .i64 (i:Int)) [] rfl (by kernel_rfl) pk rfl (by intros;go_simp) bq0 ?_
   simp only [ppq]
   refine tb 3 (.pointer (some ⟨b,o+i,none⟩)) [] rfl (by kernel_rfl) pk rfl (by intros;go_simp) bq0 ?_
   simp only [ppq]
   refine tb 4 (bs X) [] rfl (by kernel_rfl) pk rfl (by intros;go_simp) bq0 ?_
   simp only [ppq]
   refine tb 5 (.slice (some ⟨b',o',none⟩) n d) [] rfl (by kernel_rfl) pk rfl (by intros;go_simp) bq0 ?_
   simp only [ppq]
   refine tb 6 (.int .i64 (i:Int)) [] rfl (by kernel_rfl) pk rfl (by intros;go_simp) bq0 ?_
   simp only [ppq]
   refine tb 7 (.pointer (some ⟨b',o'+i,none⟩)) [] rfl (by kernel_rfl) pk rfl (by intros;go_simp) bq0 ?_
   simp only [ppq]
   refine tb 8 (.int .i64 v) [] rfl (by kernel_rfl) pk rfl (by intros;go_simp) bq0 ?_
   simp only [ppq]
   refine rd1 9 (by kernel_rfl) rfl (fun K hK=> ?_)
   go_simp
   go_wp2_with (go_at_call 86;(with_reducible refine mo0 (HF.out _) fun w1 hb1 hc1 hf1 _=> ?_))
   have sS1:=qh (bst bq0 hb1)
   refine hK.out _ _ (fun _=>sS1.out) ?_
   clear hK K
   refine rd1 10 (by kernel_rfl) rfl (fun K hK=> ?_)
   go_simp
   go_wp2_with (go_at_call 85;(with_reducible refine mo0 (HMU.out _) fun w2 hb2 hc2 hf2 _=> ?_))
   have sS2:=qh (bst sS1.out hb2)
   refine hK.out _ _ (fun _=>sS2.out) ?_
   clear hK K
   refine rd1 11 (by kernel_rfl) rfl (fun K hK=> ?_)
   go_simp
   go_wp2_with (go_at_call 84;(with_reducible refine mo0 (HA.out _) fun w3 hb3 hc3 hf3 _=> ?_))
   have sS3:=qh (bst sS2.out hb3)
   refine hK.out _ _ (fun _=>sS3.out) ?_
   clear hK K
   refine rd1 12 (by kernel_rfl) rfl (fun K hK=> ?_)
   go_simp
   refine hK.out _ _ (fun _=>bi) ?_
   clear hK K
   refine ja2 (by kernel_rfl) ?_ _
   have k93:w3.cell? ⟨b',o'+i,none⟩=some (.int .i64 v):=ja4 (show Below wr.heap.size wr w3 from bi) k9
   go_wp2
   exact ⟨⟨i+1,by simp,by rw [HM2.out,HR.out],by rw [HG2.out],HI.out,bi⟩,by have:=HI.out;simp [intOf];omega⟩
  ·have p0:decide (i < n)=false:=by simp;omega
   have e:i=n:=by omega
   subst e
   have hkk:=HK.out
   have hbb:=HB.out i (Nat.le_refl _)
   have hti:=HT.out i (Nat.le_refl _)
   have dt:Dz 11 ((jdD ws i:Int):Rat):=⟨by rw [Rat.num_intCast];omega,by rw [Rat.den_intCast];omega⟩
   have HF:=qh (fun W=>jhn (w:=W) hti.1 (by omega))
   have HDV:=qh (fun W=>jqC (w:=W) (HD.out i (Nat.le_refl _)) dt (by omega) (by omega) (by omega) (by omega) (by simpa using H0.out))
   rw [HZ.out] at HDV
   unfold QP at HF HDV ⊢
   obtain ⟨S,hS⟩:∃X,tq (jaZ qs ws i)=X:=⟨_,rfl⟩
   obtain ⟨Y,hY⟩:∃X,tq ((jdD ws i:Int):Rat)=X:=⟨_,rfl⟩
   obtain ⟨R,hR⟩:∃X,tq z=X:=⟨_,rfl⟩
   obtain ⟨g,hg⟩:∃m,jdD ws i=m:=⟨_,rfl⟩
   rw [hS,hY,hR] at HDV
   rw [hY,hg] at HF
   rw [hS,hg,hR]
   have HR:=qh hR
   clear hkk hbb hti dt hS hY hR hg hi hin HB HT H0 HD
   go_wp2_with (first|(go_at_call 86;(with_reducible refine mo0 (HF.out _) fun w1 hb1 hc1 hf1 _=> ?_))|(go_at_call 87;(with_reducible refine mo0 (HDV.out _) fun w2 hb2 hc2 hf2 _=> ?_)))
   go_ret
   exact ⟨by rw [HR.out];rfl,bi⟩
end

theorem jjn {α:Type} {l:List α} {i:Nat} {f:α→Bool} {d:α} (h:i < l.length):(l.drop i).all f=(f (l.getD i d) && (l.drop (i+1)).all f):=by
 rw [List.drop_eq_getElem_cons h,List.all_cons,List.getD_eq_getElem?_getD,List.getElem?_eq_getElem h];rfl
def jhG (p:List UInt8×List UInt8):Bool:=decide (p.1.length≤20) && decide (p.2.length≤20)
def jbD (n:Nat) (ls:List (List UInt8×List UInt8)):Bool:= !((decide (10 < n) && decide (n≤256)) || decide (260 < n)) && ls.all jhG
section
variable {w:World} {A:Option Addr} {n c:Nat} {ls:List (List UInt8×List UInt8)}
theorem jnr (h:(10 < n∧n≤256)∨260 < n):Calls Tryz.prog 5 #[.slice A n c] w fun e w'=>e= .returned (.bool false)∧Below w.heap.size w w':=by
 have q1:decide ((10:Int) < (n:Int))=true:=by rw [decide_eq_true_iff];omega
 by_cases h2:n≤256
 ·have q2:decide ((n:Int)≤256)=true:=by rw [decide_eq_true_iff];omega
  clear h h2
  go_enter Tryz.func5,Tryz.ntmps5
  go_wp2
  go_ret
  exact ⟨rfl,bi⟩
 ·have q2:decide ((n:Int)≤256)=false:=by rw [decide_eq_false_iff_not];omega
  have q3:decide ((260:Int) < (n:Int))=true:=by rw [decide_eq_true_iff];omega
  clear h h2
  go_enter Tryz.func5,Tryz.ntmps5
  go_wp2
  go_ret
  exact ⟨rfl,bi⟩
theorem jlt {r:Bool} (hr:ls.all jhG=r) (h:Pv w A n ls) (hn:n≤10):Calls Tryz.prog 5 #[.slice A n c] w fun e w'=>e= .returned (.bool r)∧Below w.heap.size w w':=by
 have q1:decide ((10:Int) < (n:Int))=false:=by rw [decide_eq_false_iff_not];omega
 have q3:decide ((260:Int) < (n:Int))=false:=by rw [decide_eq_false_iff_not];omega
 have H:=qh h
 have HN:Hid (n≤260):=qh (by omega)
 have HR:=qh hr
 clear h hr hn
 go_enter Tryz.func5,Tryz.ntmps5
 go_wp2
 go_loopw [3] (fun u wr=>∃(i:Nat),u= .int .i64 (i:Int)∧i≤n∧Below w.heap.size w wr∧(ls.drop i).all jhG=r) (fun u _=>n - (intOf u).toNat)
 case atStart=>exact ⟨0,rfl,Nat.zero_le _,bi,HR.out⟩
 case round=>
  obtain ⟨i,rfl,hin,hb,hc⟩:=hrel
  have _:=bm hb
  have hnn:=HN.out
  by_cases hi:i < n
  ·have p0:decide (i < n)=true:=by simpa using hi
   obtain ⟨b,o,rfl,hbl,hat⟩:=(H.out.below hb).at_ (by omega)
   obtain ⟨k0,k1⟩:=hat i hi
   rw [jjn (d:=([],[])) (by rw [H.out.len];exact hi)] at hc
   obtain ⟨⟨x1,x2⟩,hx⟩:∃x,ls.getD i ([],[])=x:=⟨_,rfl⟩
   rw [hx] at k0 k1 hc
   dsimp only at k0 k1
   have HC:=qh hc
   have HI:=qh hi
   clear hc hat hx
   by_cases e1:x1.length≤20
   ·have g1:decide ((20:Int) < (x1.length:Int))=false:=by rw [decide_eq_false_iff_not];omega
    by_cases e2:x2.length≤20
    ·have g2:decide ((20:Int) < (x2.length:Int))=false:=by rw [decide_eq_false_iff_not];omega
     have hc2:Hid ((ls.drop (i+1)).all jhG=r):=qh (by rw [←HC.out];simp [jhG,e1,e2])
     clear e1 e2
     go_wp2
     exact ⟨⟨i+1,by simp,HI.out,bi,hc2.out⟩,by have:=HI.out;simp [intOf];omega⟩
    ·have g2:decide ((20:Int) < (x2.length:Int))=true:=by rw [decide_eq_true_iff];omega
     have hR:false=r:=by rw [←HC.out];simp [jhG,e2]
     subst hR
     clear e1 e2
     go_wp2
     go_ret
     exact ⟨rfl,bi⟩
   ·have g1:decide ((20:Int) < (x1.length:Int))=true:=by rw [decide_eq_true_iff];omega
    have hR:false=r:=by rw [←HC.out];simp [jhG,e1]
    subst hR
    clear e1
    go_wp2
    go_ret
    exact ⟨rfl,bi⟩
  ·have p0:decide (i < n)=false:=by simp;omega
   rw [List.drop_eq_nil_of_le (by rw [H.out.len];omega)] at hc
   have hR:true=r:=by rw [←hc];rfl
   subst hR
   clear hc hi HR
   go_wp2
   go_ret
   exact ⟨rfl,bi⟩
theorem jkn {r:Bool} (hr:ls.all jhG=r) (h:Pv w A n ls) (hn:256 < n∧n≤260):Calls Tryz.prog 5 #[.slice A n c] w fun e w'=>e= .returned (.bool r)∧Below w.heap.size w w':=by
 have q1:decide ((10:Int) < (n:Int))=true:=by rw [decide_eq_true_iff];omega
 have q2:decide ((n:Int)≤256)=false:=by rw [decide_eq_false_iff_not];omega
 have q3:decide ((260:Int) < (n:Int))=false:=by rw [decide_eq_false_iff_not];omega
 have H:=qh h
 have HN:Hid (n≤260):=qh (by omega)
 have HR:=qh hr
 clear h hr hn
 go_enter Tryz.func5,Tryz.ntmps5
 go_wp2
 go_loopw [3] (fun u wr=>∃(i:Nat),u= .int .i64 (i:Int)∧i≤n∧Below w.heap.size w wr∧(ls.drop i).all jhG=r) (fun u _=>n - (intOf u).toNat)
 case atStart=>exact ⟨0,rfl,Nat.zero_le _,bi,HR.out⟩
 case round=>
  obtain ⟨i,rfl,hin,hb,hc⟩:=hrel
  have _:=bm hb
  have hnn:=HN.out
  by_cases hi:i < n
  ·have p0:decide (i < n)=true:=by simpa using hi
   obtain ⟨b,o,rfl,hbl,hat⟩:=(H.out.below hb).at_ (by omega)
   obtain ⟨k0,k1⟩:=hat i hi
   rw [jjn (d:=([],[])) (by rw [H.out.len];exact hi)] at hc
   obtain ⟨⟨x1,x2⟩,hx⟩:∃x,ls.getD i ([],[])=x:=⟨_,rfl⟩
   rw [hx] at k0 k1 hc
   dsimp only at k0 k1
   have HC:=qh hc
   have HI:=qh hi
   clear hc hat hx
   by_cases e1:x1.length≤20
   ·have g1:decide ((20:Int) < (x1.length:Int))=false:=by rw [decide_eq_false_iff_not];omega
    by_cases e2:x2.length≤20
    ·have g2:decide ((20:Int) < (x2.length:Int))=false:=by rw [decide_eq_false_iff_not];omega
     have hc2:Hid ((ls.drop (i+1)).all jhG=r):=qh (by rw [←HC.out];simp [jhG,e1,e2])
     clear e1 e2
     go_wp2
     exact ⟨⟨i+1,by simp,HI.out,bi,hc2.out⟩,by have:=HI.out;simp [intOf];omega⟩
    ·have g2:decide ((20:Int) < (x2.length:Int))=true:=by rw [decide_eq_true_iff];omega
     have hR:false=r:=by rw [←HC.out];simp [jhG,e2]
     subst hR
     clear e1 e2
     go_wp2
     go_ret
     exact ⟨rfl,bi⟩
   ·have g1:decide ((20:Int) < (x1.length:Int))=true:=by rw [decide_eq_true_iff];omega
    have hR:false=r:=by rw [←HC.out];simp [jhG,e1]
    subst hR
    clear e1
    go_wp2
    go_ret
    exact ⟨rfl,bi⟩
  ·have p0:decide (i < n)=false:=by simp;omega
   rw [List.drop_eq_nil_of_le (by rw [H.out.len];omega)] at hc
   have hR:true=r:=by rw [←hc];rfl
   subst hR
   clear hc hi HR
   go_wp2
   go_ret
   exact ⟨rfl,bi⟩
theorem jdj {r:Bool} (hr:jbD n ls=r) (h:Pv w A n ls):Calls Tryz.prog 5 #[.slice A n c] w fun e w'=>e= .returned (.bool r)∧Below w.heap.size w w':=by
 subst hr
 by_cases h1:(10 < n∧n≤256)∨260 < n
 ·have e:jbD n ls=false:=by
   unfold jbD
   rcases h1 with ⟨a,b⟩|a
   ·simp [a,b]
   ·simp [a]
  rw [e]
  exact jnr h1
 ·by_cases h2:n≤10
  ·have e:jbD n ls=ls.all jhG:=by
    unfold jbD
    rw [decide_eq_false (show ¬10 < n by omega),decide_eq_false (show ¬260 < n by omega)];simp
   exact jlt e.symm h h2
  ·have e:jbD n ls=ls.all jhG:=by
    unfold jbD
    rw [decide_eq_false (show ¬n≤256 by omega),decide_eq_false (show ¬260 < n by omega)];simp
   exact jkn e.symm h ⟨by omega,by omega⟩
noncomputable def jaU (n:Nat) (ls:List (List UInt8×List UInt8)):Int:=if n=0 then 2 else if 256 < n then 5 else ja9 jau ls
theorem jkd {α:Type} {f:α→Int} {l:List α} {i:Nat} {d:α} (h:i < l.length):ja9 f (l.drop i)=if f (l.getD i d)=0 then ja9 f (l.drop (i+1)) else f (l.getD i d):=by
 rw [List.drop_eq_getElem_cons h,ja9,List.getD_eq_getElem?_getD,List.getElem?_eq_getElem h];rfl
theorem jit:Calls Tryz.prog 10 #[.slice A 0 c] w fun e w'=>e= .returned (.int .i64 2)∧Below w.heap.size w w':=by
 go_enter Tryz.func10,Tryz.ntmps10
 go_wp2
 go_ret
 exact ⟨rfl,bi⟩
theorem jim (hn:256 < n):Calls Tryz.prog 10 #[.slice A n c] w fun e w'=>e= .returned (.int .i64 5)∧Below w.heap.size w w':=by
 have q0:((n:Int)==0)=false:=by rw [beq_eq_false_iff_ne];omega
 have q1:decide ((256:Int) < (n:Int))=true:=by rw [decide_eq_true_iff];omega
 clear hn
 go_enter Tryz.func10,Tryz.ntmps10
 go_wp2
 go_ret
 exact ⟨rfl,bi⟩
theorem jjQ {r:Int} (hr:ja9 jau ls=r) (h:Pv w A n ls) (h0:0 < n) (hn:n≤256) (hl:∀p∈ls,p.1.length≤9000∧p.2.length≤9000):Calls Tryz.prog 10 #[.slice A n c] w fun e w'=>e= .returned (.int .i64 r)∧Below w.heap.size w w':=by
 have q0:((n:Int)==0)=false:=by rw [beq_eq_false_iff_ne];omega
 have q1:decide ((256:Int) < (n:Int))=false:=by rw [decide_eq_false_iff_not];omega
 have H:=qh h
 have HR:=qh hr
 have HN:=qh hn
 have HL:=qh hl
 clear h hr hl h0 hn
 go_enter Tryz.func10,Tryz.ntmps10
 go_wp2
 go_loopw [3] (fun u wr=>∃(i:Nat),u= .int .i64 (i:Int)∧i≤n∧Below w.heap.size w wr∧ja9 jau (ls.drop i)=r) (fun u _=>n - (intOf u).toNat)
 case atStart=>exact ⟨0,rfl,Nat.zero_le _,bi,HR.out⟩
 case round=>
  obtain ⟨i,rfl,hin,hb,hc⟩:=hrel
  have _:=bm hb
  have hnn:=HN.out
  by_cases hi:i < n
  ·have p0:decide (i < n)=true:=by simpa using hi
   have hil:i < ls.length:=by rw [H.out.len];exact hi
   obtain ⟨b,o,rfl,hbl,hat⟩:=(H.out.below hb).at_ (by omega)
   obtain ⟨k0,k1⟩:=hat i hi
   rw [jkd (d:=([],[])) hil] at hc
   have hmem:ls.getD i ([],[])∈ls:=by rw [List.getD_eq_getElem?_getD,List.getElem?_eq_getElem hil];exact List.getElem_mem hil
   have hll:=HL.out _ hmem
   obtain ⟨⟨x1,x2⟩,hx⟩:∃x,ls.getD i ([],[])=x:=⟨_,rfl⟩
   rw [hx] at k0 k1 hc hll
   dsimp only at k0 k1 hll
   obtain ⟨g,hg⟩:∃g,jau (x1,x2)=g:=⟨_,rfl⟩
   have HS:=qh (fun W=>jk7 (w:=W) hll.1 hll.2 hg)
   rw [hg] at hc
   have HC:=qh hc
   have HI:=qh hi
   clear hc hat hx hg hmem hll hil
   by_cases e1:g=0
   ·have g1:(g != 0)=false:=by subst e1;rfl
    have hc2:Hid (ja9 jau (ls.drop (i+1))=r):=qh (by have:=HC.out;rwa [if_pos e1] at this)
    clear e1
    go_wp2_with (go_at_call 36;(with_reducible refine mo0 (HS.out _) fun w1 hb1 hc1 hf1 _=> ?_))
    exact ⟨⟨i+1,by simp,HI.out,bi,hc2.out⟩,by have:=HI.out;simp [intOf];omega⟩
   ·have g1:(g != 0)=true:=by rw [bne_iff_ne];exact e1
    have hR:g=r:=by have:=HC.out;rwa [if_neg e1] at this
    subst hR
    clear e1
    go_wp2_with (go_at_call 36;(with_reducible refine mo0 (HS.out _) fun w1 hb1 hc1 hf1 _=> ?_))
    go_ret
    exact ⟨rfl,bi⟩
  ·have p0:decide (i < n)=false:=by simp;omega
   rw [List.drop_eq_nil_of_le (by rw [H.out.len];omega)] at hc
   have hR:0=r:=by rw [←hc];rfl
   subst hR
   clear hc hi HR
   go_wp2
   go_ret
   exact ⟨rfl,bi⟩
theorem jfh {r:Int} (hr:jaU n ls=r) (h:Pv w A n ls) (hl:∀p∈ls,p.1.length≤9000∧p.2.length≤9000):Calls Tryz.prog 10 #[.slice A n c] w fun e w'=>e= .returned (.int .i64 r)∧Below w.heap.size w w':=by
 subst hr
 unfold jaU
 by_cases h0:n=0
 ·subst h0;rw [if_pos rfl];exact jit
 ·rw [if_neg h0]
  by_cases h1:256 < n
  ·rw [if_pos h1];exact jim h1
  ·rw [if_neg h1];exact jjQ rfl h (by omega) (by omega) hl
end

structure RSp (w:World) (A:Option Addr) (n:Nat) (ls:List (List UInt8×List UInt8)) (los his:List Rat) (k:Nat):Prop where
 view:Pv w A n ls
 lo:los.length=n
 hi:his.length=n
 num:∀j,j < n→(ls.getD j ([],[])).1=tq (los.getD j 0)∧(ls.getD j ([],[])).2=tq (his.getD j 0)∧Dz k (los.getD j 0)∧Dz k (his.getD j 0)
theorem RSp.below {w w':World} {A:Option Addr} {n k:Nat} {ls:List (List UInt8×List UInt8)} {los his:List Rat} (h:RSp w A n ls los his k) (hb:Below w.heap.size w w'):RSp w' A n ls los his k:=⟨h.view.below hb,h.lo,h.hi,h.num⟩
theorem jgZ {l:List Rat} {i:Nat} {m:Rat} (h:i < l.length):jcA m (l.drop i)=jcA (jn8 m (l.getD i 0)) (l.drop (i+1)):=by
 rw [List.drop_eq_getElem_cons h,jcA,List.getD_eq_getElem?_getD,List.getElem?_eq_getElem h]
 unfold jn8
 simp only [Rq.cmp_neg,Option.getD_some]
theorem jhB {l:List Rat} {i:Nat} {m:Rat} (h:i < l.length):jcD m (l.drop i)=jcD (jn3 m (l.getD i 0)) (l.drop (i+1)):=by
 rw [List.drop_eq_getElem_cons h,jcD,List.getD_eq_getElem?_getD,List.getElem?_eq_getElem h]
 unfold jn3
 simp only [gt_iff_lt,Rq.cmp_pos,Option.getD_some]
theorem jm5 {k:Nat} {x y:Rat} (hx:Dz k x) (hy:Dz k y):Dz k (jn8 x y):=by unfold jn8;split <;> assumption
theorem jlE {k:Nat} {x y:Rat} (hx:Dz k x) (hy:Dz k y):Dz k (jn3 x y):=by unfold jn3;split <;> assumption
section
variable {w:World} {A:Option Addr} {n c k:Nat} {ls:List (List UInt8×List UInt8)} {los his:List Rat}
theorem jqo {r1 r2:Rat} (h:RSp w A n ls los his k) (h0:0 < n) (hn:n≤1000) (hk:0 < k) (hk2:k≤9000) (he1:jcA (los.getD 0 0) (los.drop 1)=r1) (he2:jcD (his.getD 0 0) (his.drop 1)=r2):
  Calls Tryz.prog 13 #[.slice A n c] w fun e w'=>e= .returned (sp (tq r1) (tq r2))∧Below w.heap.size w w':=by
 have H:=qh h
 have HN:=qh hn
 have HK:=qh (And.intro hk hk2)
 have HE1:=qh he1
 have HE2:=qh he2
 obtain ⟨b,o,rfl,hbl,hat⟩:=h.view.at_ (by omega)
 obtain ⟨k00,k01⟩:=hat 0 (by omega)
 obtain ⟨t1,t2,g1,g2⟩:=h.num 0 (by omega)
 rw [t1] at k00
 rw [t2] at k01
 obtain ⟨m0,hm0⟩:∃m,los.getD 0 0=m:=⟨_,rfl⟩
 obtain ⟨M0,hM0⟩:∃m,his.getD 0 0=m:=⟨_,rfl⟩
 rw [hm0] at k00 g1 he1
 rw [hM0] at k01 g2 he2
 simp only [Nat.zero_mul,Nat.add_zero] at k00 k01
 have G0:=qh (And.intro g1 g2)
 have HH0:=qh (And.intro he1 he2)
 obtain ⟨X0,eX0⟩:∃t,tq m0=t:=⟨_,rfl⟩
 obtain ⟨Y0,eY0⟩:∃t,tq M0=t:=⟨_,rfl⟩
 rw [eX0] at k00
 rw [eY0] at k01
 have EX0:=qh eX0
 have EY0:=qh eY0
 have q0:decide ((0:Int) < (n:Int))=true:=by rw [decide_eq_true_iff];omega
 have z0:0 < n:=h0
 clear h hn hk hk2 he1 he2 hat t1 t2 g1 g2 hm0 hM0 eX0 eY0
 go_enter Tryz.func13,Tryz.ntmps13
 go_wp2
 have hne:w.heap.size≠w.heap.size+1:=by omega
 go_loopw [4] (fun u wr=>∃(i:Nat) (m M:Rat),u= .int .i64 (i:Int)∧1≤i∧i≤n∧Below w.heap.size w wr∧w.heap.size+1 < wr.heap.size
   ∧wr.cell? ⟨w.heap.size,0,none⟩=some (bs [])∧wr.cell? ⟨w.heap.size,1,none⟩=some (bs [])∧wr.cell? ⟨w.heap.size+1,0,none⟩=some (bs (tq m))∧wr.cell? ⟨w.heap.size+1,1,none⟩=some (bs (tq M))
   ∧(∀o,wr.frozen? ⟨w.heap.size,o,none⟩=false)∧(∀o,wr.frozen? ⟨w.heap.size+1,o,none⟩=false)
   ∧jcA m (los.drop i)=r1∧jcD M (his.drop i)=r2∧Dz k m∧Dz k M) (fun u _=>n - (intOf u).toNat)
 case atStart=>exact ⟨1,m0,M0,rfl,by omega,by omega,bi,by simp,by simp [go_sem],by simp [go_sem],by simp [go_sem,EX0.out],by simp [go_sem,EY0.out],by intro o;simp [go_sem],by intro o;simp [go_sem],HH0.out.1,HH0.out.2,G0.out.1,G0.out.2⟩
 case round=>
  obtain ⟨i,m,M,rfl,hi1,hin,hb,hsz,e0,e1,e2,e3,f0,f1,hr1,hr2,dm,dM⟩:=hrel
  have _:=bm hb
  have hnn:=HN.out
  by_cases hi:i < n
  ·have p0:decide (i < n)=true:=by simpa using hi
   obtain ⟨b',o',hbo,hbl',hat'⟩:=(H.out.view.below hb).at_ (by omega)
   cases hbo
   obtain ⟨k0,k1⟩:=hat' i hi
   obtain ⟨t1,t2,g1,g2⟩:=H.out.num i hi
   rw [t1] at k0
   rw [t2] at k1
   have s1:=jgZ (m:=m) (show i < los.length by rw [H.out.lo];exact hi)
   have s2:=jhB (m:=M) (show i < his.length by rw [H.out.hi];exact hi)
   obtain ⟨x,hx⟩:∃m,los.getD i 0=m:=⟨_,rfl⟩
   obtain ⟨y,hy⟩:∃m,his.getD i 0=m:=⟨_,rfl⟩
   rw [hx] at k0 s1 g1
   rw [hy] at k1 s2 g2
   have hkk:=HK.out
   have H1:=qh (fun W=>joY (w:=W) dm g1 hkk.1 hkk.1 hkk.2 hkk.2)
   have H2:=qh (fun W=>jp2 (w:=W) dM g2 hkk.1 hkk.1 hkk.2 hkk.2)
   have D1:=qh (jm5 dm g1)
   have D2:=qh (jlE dM g2)
   have R1:=qh (s1.symm.trans hr1)
   have R2:=qh (s2.symm.trans hr2)
   unfold QP at H1 H2
   obtain ⟨m',hm'⟩:∃z,jn8 m x=z:=⟨_,rfl⟩
   obtain ⟨M',hM'⟩:∃z,jn3 M y=z:=⟨_,rfl⟩
   rw [hm'] at H1 D1 R1
   rw [hM'] at H2 D2 R2
   obtain ⟨X,eX⟩:∃t,tq m=t:=⟨_,rfl⟩
   obtain ⟨Y,eY⟩:∃t,tq M=t:=⟨_,rfl⟩
   obtain ⟨U,eU⟩:∃t,tq x=t:=⟨_,rfl⟩
   obtain ⟨V,eV⟩:∃t,tq y=t:=⟨_,rfl⟩
   obtain ⟨X',eX'⟩:∃t,tq m'=t:=⟨_,rfl⟩
   obtain ⟨Y',eY'⟩:∃t,tq M'=t:=⟨_,rfl⟩
   rw [eX,eU,eX'] at H1
   rw [eY,eV,eY'] at H2
   rw [eX] at e2
   rw [eY] at e3
   rw [eU] at k0
   rw [eV] at k1
   have EX:=qh eX'
   have EY:=qh eY'
   have HI:=qh (And.intro hi hi1)
   clear hat' t1 t2 s1 s2 hx hy g1 g2 hkk hr1 hr2 dm dM hm' hM' eX eY eU eV eX' eY'
   go_upto_region 5 with (fail)
   refine ja3 (fun w'=>Below wr.heap.size wr w') [17] (by kernel_rfl) ?_
   refine tb 0 (.pointer (some ⟨w.heap.size+1,0,none⟩)) [1] rfl (by kernel_rfl) pk rfl (by intros;go_simp) bq0 ?_
   simp only [ppq]
   refine tb 1 (bs X) [7] rfl (by kernel_rfl) pk rfl (by intros;go_simp) bq0 ?_
   simp only [ppq]
   refine tb 2 (.slice (some ⟨b,o,none⟩) n c) [4] rfl (by kernel_rfl) pk rfl (by intros;go_simp) bq0 ?_
   simp only [ppq]
   refine tb 3 (.int .i64 (i:Int)) [4] rfl (by kernel_rfl) pk rfl (by intros;go_simp) bq0 ?_
   simp only [ppq]
   refine tb 4 (.pointer (some ⟨b,o+i*2,none⟩)) [5] rfl (by kernel_rfl) pk rfl (by intros;go_simp) bq0 ?_
   simp only [ppq]
   refine tb 5 (.pointer (some ⟨b,o+i*2,none⟩)) [6] rfl (by kernel_rfl) pk rfl (by intros;go_simp) bq0 ?_
   simp only [ppq]
   refine tb 6 (bs U) [7] rfl (by kernel_rfl) pk rfl (by intros;go_simp) bq0 ?_
   simp only [ppq]
   refine tb 8 (.pointer (some ⟨w.heap.size+1,1,none⟩)) [9] rfl (by kernel_rfl) pk rfl (by intros;go_simp) bq0 ?_
   simp only [ppq]
   refine tb 9 (bs Y) [15] rfl (by kernel_rfl) pk rfl (by intros;go_simp) bq0 ?_
   simp only [ppq]
   refine tb 10 (.slice (some ⟨b,o,none⟩) n c) [12] rfl (by kernel_rfl) pk rfl (by intros;go_simp) bq0 ?_
   simp only [ppq]
   refine tb 11 (.int .i64 (i:Int)) [12] rfl (by kernel_rfl) pk rfl (by intros;go_simp) bq0 ?_
   simp only [ppq]
   refine tb 12 (.pointer (some ⟨b,o+i*2,none⟩)) [13] rfl (by kernel_rfl) pk rfl (by intros;go_simp) bq0 ?_
   simp only [ppq]
   refine tb 13 (.pointer (some ⟨b,o+i*2+1,none⟩)) [14] rfl (by kernel_rfl) pk rfl (by intros;go_simp) bq0 ?_
   simp only [ppq]
   refine tb 14 (bs V) [15] rfl (by kernel_rfl) pk rfl (by intros;go_simp) bq0 ?_
   simp only [ppq]
   refine rd1 7 (by kernel_rfl) rfl (fun K hK=> ?_)
   go_simp
   go_wp2_with (go_at_call 39;(with_reducible refine mo0 (H1.out _) fun w1 hb1 hc1 hf1 _=> ?_))
   have sS1:=qh (bst bq0 hb1)
   refine hK.out _ _ (fun _=>sS1.out) ?_
   clear hK K
   refine rd1 15 (by kernel_rfl) rfl (fun K hK=> ?_)
   go_simp
   go_wp2_with (go_at_call 38;(with_reducible refine mo0 (H2.out _) fun w2 hb2 hc2 hf2 _=> ?_))
   have sS2:=qh (bst sS1.out hb2)
   refine hK.out _ _ (fun _=>sS2.out) ?_
   clear hK K
   have bW2:Below wr.heap.size wr w2:=bi
   have j0:=ja4 bW2 e0
   have j1:=ja4 bW2 e1
   have j2:=ja4 bW2 e2
   have j3:=ja4 bW2 e3
   have hsz0:w.heap.size < wr.heap.size:=by omega
   have kf0:∀o,w2.frozen? ⟨w.heap.size,o,none⟩=false:=fun o=>(jaq bW2 hsz0 f0) o
   have kf1:∀o,w2.frozen? ⟨w.heap.size+1,o,none⟩=false:=fun o=>(jaq bW2 hsz f1) o
   have z2:=Nat.lt_of_lt_of_le hsz bW2.size
   refine rd1 16 (by kernel_rfl) rfl (fun K hK=> ?_)
   go_simp
   refine hK.out _ _ (fun _=>bi) ?_
   clear hK K
   refine rd1 17 (by kernel_rfl) rfl (fun K hK=> ?_)
   go_simp
   refine hK.out _ _ (fun h=>(h (by decide)).elim) ?_
   clear hK K
   refine ja2 (by kernel_rfl) ?_ _
   go_wp2
   exact ⟨⟨i+1,m',M',by simp,by omega,HI.out.1,bi,by simp;exact z2,by simp [go_sem,j0,hne],by simp [go_sem,j1,hne],by simp [go_sem,j2,EX.out],by simp [go_sem,j3,EY.out],by intro o;simp [go_sem,kf0],by intro o;simp [go_sem,kf1],R1.out,R2.out,D1.out,D2.out⟩,by have:=HI.out;simp [intOf];omega⟩
  ·have p0:decide (i < n)=false:=by simp;omega
   have e:i=n:=by omega
   subst e
   rw [List.drop_of_length_le (by rw [H.out.lo];omega)] at hr1
   rw [List.drop_of_length_le (by rw [H.out.hi];omega)] at hr2
   rw [jcA] at hr1
   rw [jcD] at hr2
   subst hr1 hr2
   have hsz0:w.heap.size < wr.heap.size:=by omega
   clear H HN HK HE1 HE2 G0 HH0 EX0 EY0 dm dM
   go_wp2
   exact bodyPost_ret (v:=sp (tq m) (tq M)) (by simp [results,Tryz.results13,go_sem,e0,e1,e2,e3,f0,f1,hne]) rfl ⟨rfl,bi⟩
theorem jkS {r1 r2:Rat} {g:Bool} (h:RSp w A n ls los his k) (h0:0 < n) (hn:n≤1000) (hk:0 < k) (hk2:k≤9000) (he1:jcD (los.getD 0 0) (los.drop 1)=r1) (he2:jcA (his.getD 0 0) (his.drop 1)=r2) (hg:decide (r1≤r2)=g):
  Calls Tryz.prog 12 #[.slice A n c] w fun e w'=>e= .returned (.tuple #[sp (tq r1) (tq r2), .bool g])∧Below w.heap.size w w':=by
 have HG:=qh hg
 clear hg
 have H:=qh h
 have HN:=qh hn
 have HK:=qh (And.intro hk hk2)
 have HE1:=qh he1
 have HE2:=qh he2
 obtain ⟨b,o,rfl,hbl,hat⟩:=h.view.at_ (by omega)
 obtain ⟨k00,k01⟩:=hat 0 (by omega)
 obtain ⟨t1,t2,g1,g2⟩:=h.num 0 (by omega)
 rw [t1] at k00
 rw [t2] at k01
 obtain ⟨m0,hm0⟩:∃m,los.getD 0 0=m:=⟨_,rfl⟩
 obtain ⟨M0,hM0⟩:∃m,his.getD 0 0=m:=⟨_,rfl⟩
 rw [hm0] at k00 g1 he1
 rw [hM0] at k01 g2 he2
 simp only [Nat.zero_mul,Nat.add_zero] at k00 k01
 have G0:=qh (And.intro g1 g2)
 have HH0:=qh (And.intro he1 he2)
 obtain ⟨X0,eX0⟩:∃t,tq m0=t:=⟨_,rfl⟩
 obtain ⟨Y0,eY0⟩:∃t,tq M0=t:=⟨_,rfl⟩
 rw [eX0] at k00
 rw [eY0] at k01
 have EX0:=qh eX0
 have EY0:=qh eY0
 have q0:decide ((0:Int) < (n:Int))=true:=by rw [decide_eq_true_iff];omega
 have z0:0 < n:=h0
 clear h hn hk hk2 he1 he2 hat t1 t2 g1 g2 hm0 hM0 eX0 eY0
 go_enter Tryz.func12,Tryz.ntmps12
 go_wp2
 have hne:w.heap.size≠w.heap.size+1:=by omega
 go_loopw [5] (fun u wr=>∃(i:Nat) (m M:Rat),u= .int .i64 (i:Int)∧1≤i∧i≤n∧Below w.heap.size w wr∧w.heap.size+1 < wr.heap.size
   ∧wr.cell? ⟨w.heap.size,0,none⟩=some (bs [])∧wr.cell? ⟨w.heap.size,1,none⟩=some (bs [])∧wr.cell? ⟨w.heap.size+1,0,none⟩=some (bs (tq m))∧wr.cell? ⟨w.heap.size+1,1,none⟩=some (bs (tq M))
   ∧(∀o,wr.frozen? ⟨w.heap.size,o,none⟩=false)∧(∀o,wr.frozen? ⟨w.heap.size+1,o,none⟩=false)
   ∧jcD m (los.drop i)=r1∧jcA M (his.drop i)=r2∧Dz k m∧Dz k M) (fun u _=>n - (intOf u).toNat)
 case atStart=>exact ⟨1,m0,M0,rfl,by omega,by omega,bi,by simp,by simp [go_sem],by simp [go_sem],by simp [go_sem,EX0.out],by simp [go_sem,EY0.out],by intro o;simp [go_sem],by intro o;simp [go_sem],HH0.out.1,HH0.out.2,G0.out.1,G0.out.2⟩
 case round=>
  obtain ⟨i,m,M,rfl,hi1,hin,hb,hsz,e0,e1,e2,e3,f0,f1,hr1,hr2,dm,dM⟩:=hrel
  have _:=bm hb
  have hnn:=HN.out
  by_cases hi:i < n
  ·have p0:decide (i < n)=true:=by simpa using hi
   obtain ⟨b',o',hbo,hbl',hat'⟩:=(H.out.view.below hb).at_ (by omega)
   cases hbo
   obtain ⟨k0,k1⟩:=hat' i hi
   obtain ⟨t1,t2,g1,g2⟩:=H.out.num i hi
   rw [t1] at k0
   rw [t2] at k1
   have s1:=jhB (m:=m) (show i < los.length by rw [H.out.lo];exact hi)
   have s2:=jgZ (m:=M) (show i < his.length by rw [H.out.hi];exact hi)
   obtain ⟨x,hx⟩:∃m,los.getD i 0=m:=⟨_,rfl⟩
   obtain ⟨y,hy⟩:∃m,his.getD i 0=m:=⟨_,rfl⟩
   rw [hx] at k0 s1 g1
   rw [hy] at k1 s2 g2
   have hkk:=HK.out
   have H1:=qh (fun W=>jp2 (w:=W) dm g1 hkk.1 hkk.1 hkk.2 hkk.2)
   have H2:=qh (fun W=>joY (w:=W) dM g2 hkk.1 hkk.1 hkk.2 hkk.2)
   have D1:=qh (jlE dm g1)
   have D2:=qh (jm5 dM g2)
   have R1:=qh (s1.symm.trans hr1)
   have R2:=qh (s2.symm.trans hr2)
   unfold QP at H1 H2
   obtain ⟨m',hm'⟩:∃z,jn3 m x=z:=⟨_,rfl⟩
   obtain ⟨M',hM'⟩:∃z,jn8 M y=z:=⟨_,rfl⟩
   rw [hm'] at H1 D1 R1
   rw [hM'] at H2 D2 R2
   obtain ⟨X,eX⟩:∃t,tq m=t:=⟨_,rfl⟩
   obtain ⟨Y,eY⟩:∃t,tq M=t:=⟨_,rfl⟩
   obtain ⟨U,eU⟩:∃t,tq x=t:=⟨_,rfl⟩
   obtain ⟨V,eV⟩:∃t,tq y=t:=⟨_,rfl⟩
   obtain ⟨X',eX'⟩:∃t,tq m'=t:=⟨_,rfl⟩
   obtain ⟨Y',eY'⟩:∃t,tq M'=t:=⟨_,rfl⟩
   rw [eX,eU,eX'] at H1
   rw [eY,eV,eY'] at H2
   rw [eX] at e2
   rw [eY] at e3
   rw [eU] at k0
   rw [eV] at k1
   have EX:=qh eX'
   have EY:=qh eY'
   have HI:=qh (And.intro hi hi1)
   clear hat' t1 t2 s1 s2 hx hy g1 g2 hkk hr1 hr2 dm dM hm' hM' eX eY eU eV eX' eY'
   go_upto_region 5 with (fail)
   refine ja3 (fun w'=>Below wr.heap.size wr w') [17] (by kernel_rfl) ?_
   refine tb 0 (.pointer (some ⟨w.heap.size+1,0,none⟩)) [1] rfl (by kernel_rfl) pk rfl (by intros;go_simp) bq0 ?_
   simp only [ppq]
   refine tb 1 (bs X) [7] rfl (by kernel_rfl) pk rfl (by intros;go_simp) bq0 ?_
   simp only [ppq]
   refine tb 2 (.slice (some ⟨b,o,none⟩) n c) [4] rfl (by kernel_rfl) pk rfl (by intros;go_simp) bq0 ?_
   simp only [ppq]
   refine tb 3 (.int .i64 (i:Int)) [4] rfl (by kernel_rfl) pk rfl (by intros;go_simp) bq0 ?_
   simp only [ppq]
   refine tb 4 (.pointer (some ⟨b,o+i*2,none⟩)) [5] rfl (by kernel_rfl) pk rfl (by intros;go_simp) bq0 ?_
   simp only [ppq]
   refine tb 5 (.pointer (some ⟨b,o+i*2,none⟩)) [6] rfl (by kernel_rfl) pk rfl (by intros;go_simp) bq0 ?_
   simp only [ppq]
   refine tb 6 (bs U) [7] rfl (by kernel_rfl) pk rfl (by intros;go_simp) bq0 ?_
   simp only [ppq]
   refine tb 8 (.pointer (some ⟨w.heap.size+1,1,none⟩)) [9] rfl (by kernel_rfl) pk rfl (by intros;go_simp) bq0 ?_
   simp only [ppq]
   refine tb 9 (bs Y) [15] rfl (by kernel_rfl) pk rfl (by intros;go_simp) bq0 ?_
   simp only [ppq]
   refine tb 10 (.slice (some ⟨b,o,none⟩) n c) [12] rfl (by kernel_rfl) pk rfl (by intros;go_simp) bq0 ?_
   simp only [ppq]
   refine tb 11 (.int .i64 (i:Int)) [12] rfl (by kernel_rfl) pk rfl (by intros;go_simp) bq0 ?_
   simp only [ppq]
   refine tb 12 (.pointer (some ⟨b,o+i*2,none⟩)) [13] rfl (by kernel_rfl) pk rfl (by intros;go_simp) bq0 ?_
   simp only [ppq]
   refine tb 13 (.pointer (some ⟨b,o+i*2+1,none⟩)) [14] rfl (by kernel_rfl) pk rfl (by intros;go_simp) bq0 ?_
   simp only [ppq]
   refine tb 14 (bs V) [15] rfl (by kernel_rfl) pk rfl (by intros;go_simp) bq0 ?_
   simp only [ppq]
   refine rd1 7 (by kernel_rfl) rfl (fun K hK=> ?_)
   go_simp
   go_wp2_with (go_at_call 38;(with_reducible refine mo0 (H1.out _) fun w1 hb1 hc1 hf1 _=> ?_))
   have sS1:=qh (bst bq0 hb1)
   refine hK.out _ _ (fun _=>sS1.out) ?_
   clear hK K
   refine rd1 15 (by kernel_rfl) rfl (fun K hK=> ?_)
   go_simp
   go_wp2_with (go_at_call 39;(with_reducible refine mo0 (H2.out _) fun w2 hb2 hc2 hf2 _=> ?_))
   have sS2:=qh (bst sS1.out hb2)
   refine hK.out _ _ (fun _=>sS2.out) ?_
   clear hK K
   have bW2:Below wr.heap.size wr w2:=bi
   have j0:=ja4 bW2 e0
   have j1:=ja4 bW2 e1
   have j2:=ja4 bW2 e2
   have j3:=ja4 bW2 e3
   have hsz0:w.heap.size < wr.heap.size:=by omega
   have kf0:∀o,w2.frozen? ⟨w.heap.size,o,none⟩=false:=fun o=>(jaq bW2 hsz0 f0) o
   have kf1:∀o,w2.frozen? ⟨w.heap.size+1,o,none⟩=false:=fun o=>(jaq bW2 hsz f1) o
   have z2:=Nat.lt_of_lt_of_le hsz bW2.size
   refine rd1 16 (by kernel_rfl) rfl (fun K hK=> ?_)
   go_simp
   refine hK.out _ _ (fun _=>bi) ?_
   clear hK K
   refine rd1 17 (by kernel_rfl) rfl (fun K hK=> ?_)
   go_simp
   refine hK.out _ _ (fun h=>(h (by decide)).elim) ?_
   clear hK K
   refine ja2 (by kernel_rfl) ?_ _
   go_wp2
   exact ⟨⟨i+1,m',M',by simp,by omega,HI.out.1,bi,by simp;exact z2,by simp [go_sem,j0,hne],by simp [go_sem,j1,hne],by simp [go_sem,j2,EX.out],by simp [go_sem,j3,EY.out],by intro o;simp [go_sem,kf0],by intro o;simp [go_sem,kf1],R1.out,R2.out,D1.out,D2.out⟩,by have:=HI.out;simp [intOf];omega⟩
  ·have p0:decide (i < n)=false:=by simp;omega
   have e:i=n:=by omega
   subst e
   rw [List.drop_of_length_le (by rw [H.out.lo];omega)] at hr1
   rw [List.drop_of_length_le (by rw [H.out.hi];omega)] at hr2
   rw [jcD] at hr1
   rw [jcA] at hr2
   subst hr1 hr2
   have hsz0:w.heap.size < wr.heap.size:=by omega
   have hkk:=HK.out
   obtain ⟨z,hz⟩:∃z,Rq.cmpQ m M=z:=⟨_,rfl⟩
   have HC:=qh (fun W=>jjt (w:=W) hz dm dM hkk.1 hkk.1 hkk.2 hkk.2)
   have q1:decide (z≤0)=g:=by rw [←HG.out,decide_eq_decide,←hz,jrC]
   obtain ⟨X,eX⟩:∃t,tq m=t:=⟨_,rfl⟩
   obtain ⟨Y,eY⟩:∃t,tq M=t:=⟨_,rfl⟩
   rw [eX,eY] at HC
   rw [eX] at e2
   rw [eY] at e3
   have EX:=qh eX
   have EY:=qh eY
   clear H HN HK HE1 HE2 G0 HH0 EX0 EY0 dm dM hkk hz HG eX eY
   go_upto_region 6 with (fail)
   refine ja3 (fun w'=>w'.cell? ⟨w.heap.size+1,0,none⟩=some (bs X)∧w'.cell? ⟨w.heap.size+1,1,none⟩=some (bs Y)) [] (by kernel_rfl) ?_
   refine tk 0 (sp X Y) [] rfl (by kernel_rfl) pk (by rfl) ?_ ⟨e2,e3⟩ ?_
   ·intro w' hS'
    obtain ⟨hS1,hS2⟩:=hS'
    go_simp
   simp only [ppq]
   refine tk 1 (.pointer (some ⟨w.heap.size+1,0,none⟩)) [] rfl (by kernel_rfl) pk (by rfl) ?_ ⟨e2,e3⟩ ?_
   ·intro w' hS'
    obtain ⟨hS1,hS2⟩:=hS'
    go_simp
   simp only [ppq]
   refine tk 2 (bs X) [] rfl (by kernel_rfl) pk (by rfl) ?_ ⟨e2,e3⟩ ?_
   ·intro w' hS'
    obtain ⟨hS1,hS2⟩:=hS'
    go_simp
   simp only [ppq]
   refine tk 3 (.pointer (some ⟨w.heap.size+1,1,none⟩)) [] rfl (by kernel_rfl) pk (by rfl) ?_ ⟨e2,e3⟩ ?_
   ·intro w' hS'
    obtain ⟨hS1,hS2⟩:=hS'
    go_simp
   simp only [ppq]
   refine tk 4 (bs Y) [] rfl (by kernel_rfl) pk (by rfl) ?_ ⟨e2,e3⟩ ?_
   ·intro w' hS'
    obtain ⟨hS1,hS2⟩:=hS'
    go_simp
   simp only [ppq]
   refine ja0 (rs:=[5]) (by kernel_rfl) (by simp) (AllT.cons rfl (fun K hK=> ?_) AllT.nil)
   go_simp
   go_wp2_with (go_at_call 40;(with_reducible refine mo0 (HC.out _) fun w1 hb1 hc1 hf1 _=> ?_))
   have hb1:=jdR hb1
   have j0:=ja4 hb1 e0
   have j1:=ja4 hb1 e1
   have j2:=ja4 hb1 e2
   have j3:=ja4 hb1 e3
   have kf0:∀o,w1.frozen? ⟨w.heap.size,o,none⟩=false:=fun o=>(jaq hb1 hsz0 f0) o
   have z2:=Nat.lt_of_lt_of_le hsz hb1.size
   have zz:w.heap.size < w1.heap.size:=by omega
   refine hK.out _ _ (fun _=>⟨j2,j3⟩) ?_
   clear hK K
   refine tk 6 (.bool g) [] rfl (by kernel_rfl) pk (by rfl) ?_ ⟨j2,j3⟩ ?_
   ·intro w' hS'
    obtain ⟨hS1,hS2⟩:=hS'
    go_simp
   simp only [ppq]
   refine ja0 (rs:=[7]) (by kernel_rfl) (by simp) (AllT.cons rfl (fun K hK=> ?_) AllT.nil)
   go_simp
   refine hK.out _ _ (fun _=>⟨by simp [go_sem,j2],by simp [go_sem,j3]⟩) ?_
   clear hK K
   refine ja0 (rs:=[8]) (by kernel_rfl) (by simp) (AllT.cons rfl (fun K hK=> ?_) AllT.nil)
   go_simp
   refine hK.out _ _ (fun _=>⟨by simp [go_sem,j2],by simp [go_sem,j3]⟩) ?_
   clear hK K
   refine ja2 (by kernel_rfl) ?_ _
   go_wp2
   exact bodyPost_ret (v:= .tuple #[sp (tq m) (tq M), .bool g]) (by simp [results,Tryz.results12,go_sem,j0,j1,j2,j3,kf0,hne,EX.out,EY.out]) rfl ⟨rfl,bi⟩
end
end Go.Proofs.YtmaldbpmnneaaaaGreatDoor
