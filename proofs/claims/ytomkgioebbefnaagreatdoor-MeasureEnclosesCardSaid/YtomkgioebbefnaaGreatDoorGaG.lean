/- Parts. -/
import Derived.Test.YtomkgioebbefnaaGreatDoorLfG
set_option linter.all false
set_option maxRecDepth 100000
set_option maxHeartbeats 8000000
namespace Go.Proofs.YtomkgioebbefnaaGreatDoor
open Go Go.RowKit

theorem jou {x y:Rat}:Rq.cmpQ x y≤0↔x≤y:=by
 rw [←Rat.not_lt,←Rq.cmp_pos];omega
section
variable {w:World} {x lo hi:Rat} {k:Nat}
theorem jr0 (hlo:lo≤x) (hhi:x≤hi) (sx:Dz k x) (sl:Dz k lo) (sh:Dz k hi) (hk:0 < k) (hk2:k≤9000):
  Calls Tryz.prog 10 #[bs (tq x),sp (tq lo) (tq hi)] w fun e w'=>e= .returned (.bool true)∧Below w.heap.size w w':=by
 obtain ⟨g1,hg1⟩:∃g,Rq.cmpQ lo x=g:=⟨_,rfl⟩
 obtain ⟨g2,hg2⟩:∃g,Rq.cmpQ x hi=g:=⟨_,rfl⟩
 have q1:decide (g1≤0)=true:=by rw [decide_eq_true_iff,←hg1,jou];exact hlo
 have q2:decide (g2≤0)=true:=by rw [decide_eq_true_iff,←hg2,jou];exact hhi
 have H1:=qh (fun W=>jlz (w:=W) hg1 sl sx hk hk hk2 hk2)
 have H2:=qh (fun W=>jlz (w:=W) hg2 sx sh hk hk hk2 hk2)
 obtain ⟨a,ha⟩:∃a,tq x=a:=⟨_,rfl⟩
 obtain ⟨l,hl⟩:∃a,tq lo=a:=⟨_,rfl⟩
 obtain ⟨h,hh⟩:∃a,tq hi=a:=⟨_,rfl⟩
 rw [ha,hl] at H1
 rw [ha,hh] at H2
 rw [ha,hl,hh]
 clear hlo hhi hg1 hg2 ha hl hh sx sl sh hk hk2
 go_enter Tryz.func10,Tryz.ntmps10
 go_wp2_with (first|(go_at_call 27;(with_reducible show Calls _ _ #[bs l,bs a] _ _);(with_reducible refine mo1 w (H1.out _) (by go_size) fun w1 hb1 hc1 hf1 z1_0 _=> ?_))|(go_at_call 27;(with_reducible show Calls _ _ #[bs a,bs h] _ _);(with_reducible refine mo1 w (H2.out _) (by go_size) fun w2 hb2 hc2 hf2 z2_0 _=> ?_)))
 go_ret
 exact ⟨rfl,bi⟩
end
noncomputable def jj1 (d:Int) (p:List UInt8×List UInt8):Bool:=few d p.1 && (few d p.2 && decide (numQ p.1≤numQ p.2))
theorem jps {x1 x2:List UInt8} {d:Int} (h8:d≤60) (h1:few d x1=true) (h2:few d x2=true):
  ∃g:Int,Hid (∀W,Calls Tryz.prog 27 #[bs x1,bs x2] W fun e w'=>e= .returned (.int .i64 g)∧Below W.heap.size W w')∧Hid (decide (numQ x1≤numQ x2)= !decide (0 < g)):=by
 obtain ⟨y1,hy1⟩:=jdW h1
 obtain ⟨y2,hy2⟩:=jdW h2
 refine ⟨Rq.cmpQ y1 y2,fun W=> ?_, ?_⟩
 ·rw [hy1.eq,hy2.eq]
  exact jlz rfl (hy1.dz.mono (show d.toNat≤60 by omega)) (hy2.dz.mono (show d.toNat≤60 by omega)) (by omega) (by omega) (by omega) (by omega)
 ·show decide (numQ x1≤numQ x2)= !decide (0 < Rq.cmpQ y1 y2)
  rw [(hy1.is (by omega)).numQ,(hy2.is (by omega)).numQ,decide_eq_decide.2 Rq.cmp_pos,←decide_not,decide_eq_decide,Rat.not_lt]
section
variable {w:World} {A:Option Addr} {n c:Nat} {ls:List (List UInt8×List UInt8)} {d m:Int}
theorem jbK {r:Bool} (hr:ls.all (jj1 d)=r) (h:Pv w A n ls) (hm:(n:Int)≤m) (hn:n≤100000) (h0:0≤d) (h8:d≤60):
  Calls Tryz.prog 5 #[.slice A n c, .int .i64 m, .int .i64 d] w fun e w'=>e= .returned (.bool r)∧Below w.heap.size w w':=by
 have q1:decide (m < (n:Int))=false:=by rw [decide_eq_false_iff_not];omega
 have H:=qh h
 have HN:=qh hn
 have HD:=qh (And.intro h0 h8)
 have HR:=qh hr
 clear hm h hn h0 h8 hr
 go_enter Tryz.func5,Tryz.ntmps5
 go_wp2
 go_loopw [7] (fun u wr=>∃(i:Nat),u= .int .i64 (i:Int)∧i≤n∧Below w.heap.size w wr∧(ls.drop i).all (jj1 d)=r) (fun u _=>n - (intOf u).toNat)
 case atStart=>exact ⟨0,rfl,Nat.zero_le _,bi,HR.out⟩
 case round=>
  obtain ⟨i,rfl,hin,hb,hc⟩:=hrel
  have _:=bm hb
  have hnn:=HN.out
  by_cases hi:i < n
  ·have p0:decide (i < n)=true:=by simpa using hi
   obtain ⟨b,o,rfl,hbl,hat⟩:=(H.out.below hb).at_ (by omega)
   obtain ⟨k0,k1⟩:=hat i hi
   have hil:i < ls.length:=by rw [H.out.len];exact hi
   rw [jaP (d:=([],[])) hil,List.all_cons] at hc
   obtain ⟨⟨x1,x2⟩,hx⟩:∃x,ls.getD i ([],[])=x:=⟨_,rfl⟩
   rw [hx] at k0 k1 hc
   dsimp only at k0 k1
   have HII:=qh hi
   have HC:=qh hc
   obtain ⟨f1,hf1⟩:∃f,few d x1=f:=⟨_,rfl⟩
   obtain ⟨f2,hf2⟩:∃f,few d x2=f:=⟨_,rfl⟩
   have H1:=qh (fun W=>jkR (w:=W) hf1 HD.out.1 HD.out.2)
   have H2:=qh (fun W=>jkR (w:=W) hf2 HD.out.1 HD.out.2)
   have HF:Hid (jj1 d (x1,x2)=(f1 && (f2 && decide (numQ x1≤numQ x2)))):=qh (by unfold jj1;rw [hf1,hf2])
   have HF1:=qh hf1
   have HF2:=qh hf2
   clear hc hat hil hx hf1 hf2
   go_upto_region 6 with (fail)
   refine ja3 (fun w'=>Below wr.heap.size wr w') [] (by kernel_rfl) ?_
   refine tb 0 (.slice (some ⟨b,o,none⟩) n c) [] rfl (by kernel_rfl) pk rfl (by intros;go_simp) bq0 ?_
   simp only [ppq]
   refine tb 1 (.int .i64 (i:Int)) [] rfl (by kernel_rfl) pk rfl (by intros;go_simp) bq0 ?_
   simp only [ppq]
   refine tb 2 (.pointer (some ⟨b,o+i*2,none⟩)) [] rfl (by kernel_rfl) pk rfl (by intros;go_simp) bq0 ?_
   simp only [ppq]
   refine tb 3 (.pointer (some ⟨b,o+i*2,none⟩)) [] rfl (by kernel_rfl) pk rfl (by intros;go_simp) bq0 ?_
   simp only [ppq]
   refine tb 4 (bs x1) [] rfl (by kernel_rfl) pk rfl (by intros;go_simp) bq0 ?_
   simp only [ppq]
   refine tb 5 (.int .i64 d) [] rfl (by kernel_rfl) pk rfl (by intros;go_simp) bq0 ?_
   simp only [ppq]
   refine rd1 6 (by kernel_rfl) rfl (fun K hK=> ?_)
   go_simp
   go_wp2_with (go_at_call 26;(with_reducible refine mo0 (H1.out _) fun w1 hb1 hc1 hf1 _=> ?_))
   have sS1:=qh (bst bq0 hb1)
   refine hK.out _ _ (fun _=>sS1.out) ?_
   clear hK K
   refine rd1 7 (by kernel_rfl) rfl (fun K hK=> ?_)
   go_simp
   refine hK.out _ _ (fun _=>bi) ?_
   clear hK K
   refine rd1 8 (by kernel_rfl) rfl (fun K hK=> ?_)
   go_simp
   refine hK.out _ _ (fun _=>bi) ?_
   clear hK K
   cases f1
   ·have hR:false=r:=by rw [←HC.out,HF.out];rfl
    subst hR
    refine ts 9 [] rfl (by kernel_rfl) pk (by rfl) sS1.out ?_
    simp only [ppq]
    refine ts 10 [] rfl (by kernel_rfl) pk (by rfl) sS1.out ?_
    simp only [ppq]
    refine ts 11 [] rfl (by kernel_rfl) pk (by rfl) sS1.out ?_
    simp only [ppq]
    refine ts 12 [] rfl (by kernel_rfl) pk (by rfl) sS1.out ?_
    simp only [ppq]
    refine ts 13 [] rfl (by kernel_rfl) pk (by rfl) sS1.out ?_
    simp only [ppq]
    refine ts 14 [] rfl (by kernel_rfl) pk (by rfl) sS1.out ?_
    simp only [ppq]
    refine ts 15 [] rfl (by kernel_rfl) pk (by rfl) sS1.out ?_
    simp only [ppq]
    refine ts 16 [] rfl (by kernel_rfl) pk (by rfl) sS1.out ?_
    simp only [ppq]
    refine rd1 17 (by kernel_rfl) rfl (fun K hK=> ?_)
    go_simp
    refine hK.out _ _ (fun _=>bi) ?_
    clear hK K
    refine rd1 18 (by kernel_rfl) rfl (fun K hK=> ?_)
    go_simp
    refine hK.out _ _ (fun _=>bi) ?_
    clear hK K
    refine ts 19 [] rfl (by kernel_rfl) pk (by rfl) sS1.out ?_
    simp only [ppq]
    refine ts 20 [] rfl (by kernel_rfl) pk (by rfl) sS1.out ?_
    simp only [ppq]
    refine ts 21 [] rfl (by kernel_rfl) pk (by rfl) sS1.out ?_
    simp only [ppq]
    refine ts 22 [] rfl (by kernel_rfl) pk (by rfl) sS1.out ?_
    simp only [ppq]
    refine ts 23 [] rfl (by kernel_rfl) pk (by rfl) sS1.out ?_
    simp only [ppq]
    refine ts 24 [] rfl (by kernel_rfl) pk (by rfl) sS1.out ?_
    simp only [ppq]
    refine ts 25 [] rfl (by kernel_rfl) pk (by rfl) sS1.out ?_
    simp only [ppq]
    refine ts 26 [] rfl (by kernel_rfl) pk (by rfl) sS1.out ?_
    simp only [ppq]
    refine ts 27 [] rfl (by kernel_rfl) pk (by rfl) sS1.out ?_
    simp only [ppq]
    refine ts 28 [] rfl (by kernel_rfl) pk (by rfl) sS1.out ?_
    simp only [ppq]
    refine ts 29 [] rfl (by kernel_rfl) pk (by rfl) sS1.out ?_
    simp only [ppq]
    refine ts 30 [] rfl (by kernel_rfl) pk (by rfl) sS1.out ?_
    simp only [ppq]
    refine rd1 31 (by kernel_rfl) rfl (fun K hK=> ?_)
    go_simp
    refine hK.out _ _ (fun _=>bi) ?_
    clear hK K
    refine ja2 (by kernel_rfl) ?_ _
    go_wp2
    go_ret
    exact ⟨rfl,bi⟩
   ·refine tb 9 (.slice (some ⟨b,o,none⟩) n c) [] rfl (by kernel_rfl) pk rfl (by intros;go_simp) sS1.out ?_
    simp only [ppq]
    refine tb 10 (.int .i64 (i:Int)) [] rfl (by kernel_rfl) pk rfl (by intros;go_simp) sS1.out ?_
    simp only [ppq]
    refine tb 11 (.pointer (some ⟨b,o+i*2,none⟩)) [] rfl (by kernel_rfl) pk rfl (by intros;go_simp) sS1.out ?_
    simp only [ppq]
    refine tb 12 (.pointer (some ⟨b,o+i*2+1,none⟩)) [] rfl (by kernel_rfl) pk rfl (by intros;go_simp) sS1.out ?_
    simp only [ppq]
    refine tb 13 (bs x2) [] rfl (by kernel_rfl) pk rfl (by intros;go_simp) sS1.out ?_
    simp only [ppq]
    refine tb 14 (.int .i64 d) [] rfl (by kernel_rfl) pk rfl (by intros;go_simp) sS1.out ?_
    simp only [ppq]
    refine rd1 15 (by kernel_rfl) rfl (fun K hK=> ?_)
    go_simp
    go_wp2_with (go_at_call 26;(with_reducible refine mo0 (H2.out _) fun w2 hb2 hc2 hf2 _=> ?_))
    have sS2:=qh (bst sS1.out hb2)
    refine hK.out _ _ (fun _=>sS2.out) ?_
    clear hK K
    refine rd1 16 (by kernel_rfl) rfl (fun K hK=> ?_)
    go_simp
    refine hK.out _ _ (fun _=>bi) ?_
    clear hK K
    refine rd1 17 (by kernel_rfl) rfl (fun K hK=> ?_)
    go_simp
    refine hK.out _ _ (fun _=>bi) ?_
    clear hK K
    refine rd1 18 (by kernel_rfl) rfl (fun K hK=> ?_)
    go_simp
    refine hK.out _ _ (fun _=>bi) ?_
    clear hK K
    cases f2
    ·have hR:false=r:=by rw [←HC.out,HF.out];rfl
     subst hR
     refine ts 19 [] rfl (by kernel_rfl) pk (by rfl) sS2.out ?_
     simp only [ppq]
     refine ts 20 [] rfl (by kernel_rfl) pk (by rfl) sS2.out ?_
     simp only [ppq]
     refine ts 21 [] rfl (by kernel_rfl) pk (by rfl) sS2.out ?_
     simp only [ppq]
     refine ts 22 [] rfl (by kernel_rfl) pk (by rfl) sS2.out ?_
     simp only [ppq]
     refine ts 23 [] rfl (by kernel_rfl) pk (by rfl) sS2.out ?_
     simp only [ppq]
     refine ts 24 [] rfl (by kernel_rfl) pk (by rfl) sS2.out ?_
     simp only [ppq]
     refine ts 25 [] rfl (by kernel_rfl) pk (by rfl) sS2.out ?_
     simp only [ppq]
     refine ts 26 [] rfl (by kernel_rfl) pk (by rfl) sS2.out ?_
     simp only [ppq]
     refine ts 27 [] rfl (by kernel_rfl) pk (by rfl) sS2.out ?_
     simp only [ppq]
     refine ts 28 [] rfl (by kernel_rfl) pk (by rfl) sS2.out ?_
     simp only [ppq]
     refine ts 29 [] rfl (by kernel_rfl) pk (by rfl) sS2.out ?_
     simp only [ppq]
     refine ts 30 [] rfl (by kernel_rfl) pk (by rfl) sS2.out ?_
     simp only [ppq]
     refine rd1 31 (by kernel_rfl) rfl (fun K hK=> ?_)
     go_simp
     refine hK.out _ _ (fun _=>bi) ?_
     clear hK K
     refine ja2 (by kernel_rfl) ?_ _
     go_wp2
     go_ret
     exact ⟨rfl,bi⟩
    ·obtain ⟨g,H3,HG⟩:=jps HD.out.2 HF1.out HF2.out
     refine tb 19 (.slice (some ⟨b,o,none⟩) n c) [] rfl (by kernel_rfl) pk rfl (by intros;go_simp) sS2.out ?_
     simp only [ppq]
     refine tb 20 (.int .i64 (i:Int)) [] rfl (by kernel_rfl) pk rfl (by intros;go_simp) sS2.out ?_
     simp only [ppq]
     refine tb 21 (.pointer (some ⟨b,o+i*2,none⟩)) [] rfl (by kernel_rfl) pk rfl (by intros;go_simp) sS2.out ?_
     simp only [ppq]
     refine tb 22 (.pointer (some ⟨b,o+i*2,none⟩)) [] rfl (by kernel_rfl) pk rfl (by intros;go_simp) sS2.out ?_
     simp only [ppq]
     refine tb 23 (bs x1) [] rfl (by kernel_rfl) pk rfl (by intros;go_simp) sS2.out ?_
     simp only [ppq]
     refine tb 24 (.slice (some ⟨b,o,none⟩) n c) [] rfl (by kernel_rfl) pk rfl (by intros;go_simp) sS2.out ?_
     simp only [ppq]
     refine tb 25 (.int .i64 (i:Int)) [] rfl (by kernel_rfl) pk rfl (by intros;go_simp) sS2.out ?_
     simp only [ppq]
     refine tb 26 (.pointer (some ⟨b,o+i*2,none⟩)) [] rfl (by kernel_rfl) pk rfl (by intros;go_simp) sS2.out ?_
     simp only [ppq]
     refine tb 27 (.pointer (some ⟨b,o+i*2+1,none⟩)) [] rfl (by kernel_rfl) pk rfl (by intros;go_simp) sS2.out ?_
     simp only [ppq]
     refine tb 28 (bs x2) [] rfl (by kernel_rfl) pk rfl (by intros;go_simp) sS2.out ?_
     simp only [ppq]
     refine rd1 29 (by kernel_rfl) rfl (fun K hK=> ?_)
     go_simp
     go_wp2_with (go_at_call 27;(with_reducible refine mo0 (H3.out _) fun w3 hb3 hc3 hf3 _=> ?_))
     have sS3:=qh (bst sS2.out hb3)
     refine hK.out _ _ (fun _=>sS3.out) ?_
     clear hK K
     refine rd1 30 (by kernel_rfl) rfl (fun K hK=> ?_)
     go_simp
     refine hK.out _ _ (fun _=>bi) ?_
     clear hK K
     refine rd1 31 (by kernel_rfl) rfl (fun K hK=> ?_)
     go_simp
     refine hK.out _ _ (fun _=>bi) ?_
     clear hK K
     refine ja2 (by kernel_rfl) ?_ _
     go_wp2
     ·have hR:false=r:=by rw [←HC.out,HF.out,HG.out,decide_eq_true (show 0 < g by omega)];rfl
      subst hR
      go_ret
      exact ⟨rfl,bi⟩
     ·have HC2:Hid ((ls.drop (i+1)).all (jj1 d)=r):=qh (by rw [←HC.out,HF.out,HG.out,decide_eq_false (show ¬0 < g by omega)];rfl)
      exact ⟨⟨i+1,by simp,HII.out,bi,HC2.out⟩,by have:=HII.out;simp [intOf];omega⟩
  ·have p0:decide (i < n)=false:=by simp;omega
   rw [List.drop_eq_nil_of_le (by rw [H.out.len];omega)] at hc
   have hR:true=r:=by rw [←hc];rfl
   subst hR
   clear hc hi HR
   go_wp2
   go_ret
   exact ⟨rfl,bi⟩
end
section
variable {w:World} {lo hi:Rat} {k:Nat}
theorem jeD {r:Nat} {z:Int} {t:Rat} (z0:0≤z) (z1:z < 256) (hz:z.tmod 8=(r:Int)) (hr:r≤7) (ht:Rat.divInt (r:Int) ((7:Nat):Int)=t) (hl:Dz k lo) (hh:Dz k hi) (hk:0 < k) (hk2:k≤1000):
  Calls Tryz.prog 6 #[sp (tq lo) (tq hi), .int .u8 z] w (QP (lo+(hi - lo)*t) w):=by
 have dt:Dz 1 t:=ht ▸ jbn (by omega) (by omega) (by omega)
 have ds:=hh.sub hl
 have dm:=ds.mul dt
 have HO:=qh (fun W=>jfz (w:=W) (a:=(r:Int)) (d:=7) (by omega) (by omega) (by omega))
 rw [ht] at HO
 have HS:=qh (fun W=>jiI (w:=W) hh hl hk hk (by omega) (by omega))
 have HM:=qh (fun W=>jdP (w:=W) ds dt (by omega) (by omega) (by omega) (by omega))
 have HA:=qh (fun W=>jhe (w:=W) hl dm hk (by omega) (by omega) (by omega))
 unfold QP at HS HM HA ⊢
 obtain ⟨X,hX⟩:∃X,tq lo=X:=⟨_,rfl⟩
 obtain ⟨Y,hY⟩:∃X,tq hi=X:=⟨_,rfl⟩
 obtain ⟨S,hS⟩:∃X,tq (hi - lo)=X:=⟨_,rfl⟩
 obtain ⟨M,hM⟩:∃X,tq ((hi - lo)*t)=X:=⟨_,rfl⟩
 obtain ⟨R,hR⟩:∃X,tq (lo+(hi - lo)*t)=X:=⟨_,rfl⟩
 obtain ⟨T,hT⟩:∃X,tq t=X:=⟨_,rfl⟩
 rw [hX,hY,hS] at HS
 rw [hS,hT,hM] at HM
 rw [hX,hM,hR] at HA
 rw [hT] at HO
 rw [hX,hY,hR]
 obtain ⟨rr,hrr⟩:∃rr:Int,(r:Int)=rr:=⟨_,rfl⟩
 rw [hrr] at HO hz
 have m1:IntKind.i64.wrap z=z:=by rw [IntKind.wrap_i64];omega
 have m2:IntKind.i64.wrap rr=rr:=by rw [IntKind.wrap_i64];omega
 clear z0 z1 hr ht hl hh hk hk2 dt ds dm hX hY hS hM hR hT hrr
 go_enter Tryz.func6,Tryz.ntmps6
 go_upto_region 1 with (fail)
 refine ja3 (fun w'=>Below (w.alloc (.cells #[bs X,bs Y] 24)).heap.size (w.alloc (.cells #[bs X,bs Y] 24)) w') [] (by kernel_rfl) ?_
 refine tb 0 (.pointer (some ⟨w.heap.size,0,none⟩)) [1] rfl (by kernel_rfl) pk rfl (by intros;go_simp) bq0 ?_
 simp only [ppq]
 refine tb 1 (bs X) [] rfl (by kernel_rfl) pk rfl (by intros;go_simp) bq0 ?_
 simp only [ppq]
 refine tb 2 (.pointer (some ⟨w.heap.size,1,none⟩)) [3] rfl (by kernel_rfl) pk rfl (by intros;go_simp) bq0 ?_
 simp only [ppq]
 refine tb 3 (bs Y) [] rfl (by kernel_rfl) pk rfl (by intros;go_simp) bq0 ?_
 simp only [ppq]
 refine tb 4 (.pointer (some ⟨w.heap.size,0,none⟩)) [5] rfl (by kernel_rfl) pk rfl (by intros;go_simp) bq0 ?_
 simp only [ppq]
 refine tb 5 (bs X) [] rfl (by kernel_rfl) pk rfl (by intros;go_simp) bq0 ?_
 simp only [ppq]
 refine tb 7 (.int .u8 z) [] rfl (by kernel_rfl) pk rfl (by intros;go_simp) bq0 ?_
 simp only [ppq]
 refine tb 8 (.int .i64 z) [] rfl (by kernel_rfl) pk rfl (by intros;go_simp) bq0 ?_
 simp only [ppq]
 refine tb 9 (.int .i64 rr) [] rfl (by kernel_rfl) pk rfl (by intros;go_simp) bq0 ?_
 simp only [ppq]
 refine rd1 6 (by kernel_rfl) rfl (fun K hK=> ?_)
 go_simp
 go_wp2_with (go_at_call 12;(with_reducible refine mo1 w (HS.out _) (by go_size) fun w1 hb1 hc1 hf1 z1_0 _=> ?_))
 have sS1:=qh (bst bq0 hb1)
 refine hK.out _ _ (fun _=>sS1.out) ?_
 clear hK K
 refine rd1 10 (by kernel_rfl) rfl (fun K hK=> ?_)
 go_simp
 go_wp2_with (go_at_call 28;(with_reducible refine mo1 w (HO.out _) (by go_size) fun w2 hb2 hc2 hf2 z2_0 _=> ?_))
 have sS2:=qh (bst sS1.out hb2)
 refine hK.out _ _ (fun _=>sS2.out) ?_
 clear hK K
 refine rd1 11 (by kernel_rfl) rfl (fun K hK=> ?_)
 go_simp
 go_wp2_with (go_at_call 13;(with_reducible refine mo1 w (HM.out _) (by go_size) fun w3 hb3 hc3 hf3 z3_0 _=> ?_))
 have sS3:=qh (bst sS2.out hb3)
 refine hK.out _ _ (fun _=>sS3.out) ?_
 clear hK K
 refine rd1 12 (by kernel_rfl) rfl (fun K hK=> ?_)
 go_simp
 go_wp2_with (go_at_call 11;(with_reducible refine mo1 w (HA.out _) (by go_size) fun w4 hb4 hc4 hf4 z4_0 _=> ?_))
 have sS4:=qh (bst sS3.out hb4)
 refine hK.out _ _ (fun _=>sS4.out) ?_
 clear hK K
 refine rd1 13 (by kernel_rfl) rfl (fun K hK=> ?_)
 go_simp
 refine hK.out _ _ (fun _=>bi) ?_
 clear hK K
 refine ja2 (by kernel_rfl) ?_ _
 go_wp2
 go_ret
 exact ⟨rfl,bi⟩
end
def jfw (ws:List Int):Nat→Int
 | 0=>0
 | i+1=>jfw ws i+ws.getD i 0
theorem jdd {k n:Nat} {qs:List Rat} {ws:List Int} (hq:∀j,j < n→Dz k (qs.getD j 0)) (hw:∀j,j < n→0≤ws.getD j 0∧ws.getD j 0≤999999999):∀i,i≤n→Dz (i*(k+10)+1) (jaw qs ws i)
 | 0,_=>by rw [jaw];exact (show Dz 1 (0:Rat) from ⟨by decide+kernel,by decide+kernel⟩).mono (by omega)
 | i+1,h=>by
   rw [jaw]
   have d9:Dz 9 ((ws.getD i 0:Int):Rat):=by
    have:=hw i h
    exact ⟨by rw [Rat.num_intCast];omega,by rw [Rat.den_intCast];omega⟩
   exact ((jdd hq hw i (by omega)).add ((hq i h).mul d9)).mono (by rw [Nat.add_mul];omega)
theorem jl9 {n:Nat} {ws:List Int} (hw:∀j,j < n→0≤ws.getD j 0∧ws.getD j 0≤999999999):∀i,i≤n→0≤jfw ws i∧jfw ws i≤999999999*(i:Int)
 | 0,_=>by rw [jfw];omega
 | i+1,h=>by
   rw [jfw]
   have:=hw i h
   have:=jl9 hw i (by omega)
   omega
theorem jgL {w:World} {z:Int} (h0:0≤z) (h1:z < 9223372036854775808):Calls Tryz.prog 47 #[.int .i64 z] w (QP (z:Rat) w):=by
 obtain ⟨n,rfl⟩:∃n:Nat,z=(n:Int):=⟨z.toNat,by omega⟩
 exact jkK (by omega)
section
variable {w:World} {A B:Option Addr} {n c d k:Nat} {ls:List (List UInt8)} {qs:List Rat} {ws:List Int}
theorem jkj {z:Rat} (hs:Sv w A n ls) (hw:Iv w B n ws) (hn:n≤12) (hl:∀j,j < n→ls.getD j []=tq (qs.getD j 0)) (hq:∀j,j < n→Dz k (qs.getD j 0)) (hk:0 < k) (hk2:k≤600)
  (hws:∀j,j < n→0≤ws.getD j 0∧ws.getD j 0≤999999999) (h0:jfw ws n≠0) (hz:jaw qs ws n / ((jfw ws n:Int):Rat)=z):
  Calls Tryz.prog 15 #[.slice A n c, .slice B n d] w (QP z w):=by
 have HS:=qh hs
 have HW:=qh hw
 have HN:=qh hn
 have HL:=qh hl
 have HQ:=qh hq
 have HK:=qh (And.intro hk hk2)
 have HWS:=qh hws
 have HD:=qh (jdd hq hws)
 have HT:=qh (jl9 hws)
 have H0:=qh h0
 have HZ:=qh hz
 have HB:Hid (∀i,i≤n→i*(k+10)+1≤8000):=qh (fun i hi=>by
  have:i*(k+10)≤12*610:=Nat.mul_le_mul (by omega) (by omega)
  omega)
 clear hs hw hn hl hq hk hk2 hws h0 hz
 go_enter Tryz.func15,Tryz.ntmps15
 go_wp2
 go_loopw [5,6,7] (fun u1 u2 u wr=>∃(i:Nat),u= .int .i64 (i:Int)∧u1=bs (tq (jaw qs ws i))∧u2= .int .i64 (jfw ws i)∧i≤n∧Below w.heap.size w wr) (fun _ _ u _=>n - (intOf u).toNat)
 case atStart=>exact ⟨0,rfl,by rw [jaw,show tq (0:Rat)=[48] by decide+kernel],by rw [jfw],Nat.zero_le _,bi⟩
 case round=>
  obtain ⟨i,rfl,rfl,rfl,hin,hb⟩:=hrel
  have _:=bm hb
  have hnn:=HN.out
  by_cases hi:i < n
  ·have p0:decide (i < n)=true:=by simpa using hi
   obtain ⟨b,o,rfl,hbl,hat⟩:=(HS.out.below hb).at_ (by omega)
   obtain ⟨b',o',rfl,hbl',hat'⟩:=(HW.out.below hb).at_ (by omega)
   have k8:=hat i hi
   have k9:=hat' i hi
   rw [HL.out i hi] at k8
   have HQI:=qh (HQ.out i hi)
   have HWI:=qh (HWS.out i hi)
   have HDI:=qh (HD.out i hin)
   have HTI:=qh (HT.out i hin)
   have HTJ:=qh (HT.out (i+1) hi)
   have hs1:Hid (jaw qs ws i+qs.getD i 0*((ws.getD i 0:Int):Rat)=jaw qs ws (i+1)):=qh (by rw [jaw])
   have ht1:Hid (jfw ws i+ws.getD i 0=jfw ws (i+1)):=qh (by rw [jfw])
   obtain ⟨x,hx⟩:∃x,qs.getD i 0=x:=⟨_,rfl⟩
   obtain ⟨v,hv⟩:∃v,ws.getD i 0=v:=⟨_,rfl⟩
   obtain ⟨m,hm⟩:∃m,jaw qs ws i=m:=⟨_,rfl⟩
   obtain ⟨m2,hm2⟩:∃m,jaw qs ws (i+1)=m:=⟨_,rfl⟩
   obtain ⟨g,hg⟩:∃m,jfw ws i=m:=⟨_,rfl⟩
   obtain ⟨g2,hg2⟩:∃m,jfw ws (i+1)=m:=⟨_,rfl⟩
   rw [hx] at HQI k8 hs1
   rw [hv] at HWI k9 hs1 ht1
   rw [hm] at HDI hs1
   rw [hm2] at hs1
   rw [hg] at HTI ht1
   rw [hg2] at HTJ ht1
   rw [hm,hg]
   have HM2:=qh hm2
   have HG2:=qh hg2
   have hkk:=HK.out
   have hbb:=HB.out i hin
   have d9:Dz 9 ((v:Int):Rat):=by
    have:=HWI.out
    exact ⟨by rw [Rat.num_intCast];omega,by rw [Rat.den_intCast];omega⟩
   have HF:=qh (fun W=>jgL (w:=W) HWI.out.1 (by have:=HWI.out;omega))
   have HMU:=qh (fun W=>jdP (w:=W) HQI.out d9 (by omega) (by omega) (by omega) (by omega))
   have HA:=qh (fun W=>jhe (w:=W) HDI.out (HQI.out.mul d9) (by omega) (by omega) (by omega) (by omega))
   rw [hs1.out] at HA
   unfold QP at HF HMU HA
   have m1:IntKind.i64.wrap (g+v)=g2:=by
    have:=ht1.out;have:=HTI.out;have:=HTJ.out;have:=HWI.out
    rw [IntKind.wrap_i64];omega
   have wg1:wrap64 (g+v)=g2:=by
    have:=ht1.out;have:=HTI.out;have:=HTJ.out;have:=HWI.out
    unfold wrap64;omega
   obtain ⟨X,hX⟩:∃X,tq x=X:=⟨_,rfl⟩
   obtain ⟨Y,hY⟩:∃X,tq ((v:Int):Rat)=X:=⟨_,rfl⟩
   obtain ⟨Z,hZ⟩:∃X,tq (x*((v:Int):Rat))=X:=⟨_,rfl⟩
   obtain ⟨S,hS⟩:∃X,tq m=X:=⟨_,rfl⟩
   obtain ⟨R,hR⟩:∃X,tq m2=X:=⟨_,rfl⟩
   rw [hY] at HF
   rw [hX,hY,hZ] at HMU
   rw [hS,hZ,hR] at HA
   rw [hX] at k8
   rw [hS]
   have HR:=qh hR
   have HI:=qh hi
   clear hat hat' hx hv hm hm2 hg hg2 hX hY hZ hS hR d9 hkk hbb
   go_upto_region 5 with (fail)
   refine ja3 (fun w'=>Below wr.heap.size wr w') [] (by kernel_rfl) ?_
   refine tb 0 (bs S) [] rfl (by kernel_rfl) pk rfl (by intros;go_simp) bq0 ?_
   simp only [ppq]
   refine tb 1 (.slice (some ⟨b,o,none⟩) n c) [] rfl (by kernel_rfl) pk rfl (by intros;go_simp) bq0 ?_
   simp only [ppq]
   refine tb 2 (.int .i64 (i:Int)) [] rfl (by kernel_rfl) pk rfl (by intros;go_simp) bq0 ?_
   simp only [ppq]
   refine tb 3 (.pointer (some ⟨b,o+i,none⟩)) [] rfl (by kernel_rfl) pk rfl (by intros;go_simp) bq0 ?_
   simp only [ppq]
   refine tb 4 (bs X) [] rfl (by kernel_rfl) pk rfl (by intros;go_simp) bq0 ?_
   simp only [ppq]
   refine tb 5 (.slice (some ⟨b',o',none⟩) n d) [] rfl (by kernel_rfl) pk rfl (by intros;go_simp) bq0 ?_
   simp only [ppq]
   refine tb 6 (.int .i64 (i:Int)) [] rfl (by kernel_rfl) pk rfl (by intros;go_simp) bq0 ?_
   simp only [ppq]
   refine tb 7 (.pointer (some ⟨b',o'+i,none⟩)) [] rfl (by kernel_rfl) pk rfl (by intros;go_simp) bq0 ?_
   simp only [ppq]
   refine tb 8 (.int .i64 v) [] rfl (by kernel_rfl) pk rfl (by intros;go_simp) bq0 ?_
   simp only [ppq]
   refine rd1 9 (by kernel_rfl) rfl (fun K hK=> ?_)
   go_simp
   go_wp2_with (go_at_call 47;(with_reducible refine mo0 (HF.out _) fun w1 hb1 hc1 hf1 _=> ?_))
   have sS1:=qh (bst bq0 hb1)
   refine hK.out _ _ (fun _=>sS1.out) ?_
   clear hK K
   refine rd1 10 (by kernel_rfl) rfl (fun K hK=> ?_)
   go_simp
   go_wp2_with (go_at_call 13;(with_reducible refine mo0 (HMU.out _) fun w2 hb2 hc2 hf2 _=> ?_))
   have sS2:=qh (bst sS1.out hb2)
   refine hK.out _ _ (fun _=>sS2.out) ?_
   clear hK K
   refine rd1 11 (by kernel_rfl) rfl (fun K hK=> ?_)
   go_simp
   go_wp2_with (go_at_call 11;(with_reducible refine mo0 (HA.out _) fun w3 hb3 hc3 hf3 _=> ?_))
   have sS3:=qh (bst sS2.out hb3)
   refine hK.out _ _ (fun _=>sS3.out) ?_
   clear hK K
   refine rd1 12 (by kernel_rfl) rfl (fun K hK=> ?_)
   go_simp
   refine hK.out _ _ (fun _=>bi) ?_
   clear hK K
   refine ja2 (by kernel_rfl) ?_ _
   have k93:w3.cell? ⟨b',o'+i,none⟩=some (.int .i64 v):=ja5 (show Below wr.heap.size wr w3 from bi) k9
   go_wp2
   exact ⟨⟨i+1,by simp,by rw [HM2.out,HR.out],by rw [HG2.out],HI.out,bi⟩,by have:=HI.out;simp [intOf];omega⟩
  ·have p0:decide (i < n)=false:=by simp;omega
   have e:i=n:=by omega
   subst e
   have hkk:=HK.out
   have hbb:=HB.out i (Nat.le_refl _)
   have hti:=HT.out i (Nat.le_refl _)
   have dt:Dz 11 ((jfw ws i:Int):Rat):=⟨by rw [Rat.num_intCast];omega,by rw [Rat.den_intCast];omega⟩
   have HF:=qh (fun W=>jgL (w:=W) hti.1 (by omega))
   have HDV:=qh (fun W=>jqf (w:=W) (HD.out i (Nat.le_refl _)) dt (by omega) (by omega) (by omega) (by omega) (by simpa using H0.out))
   rw [HZ.out] at HDV
   unfold QP at HF HDV ⊢
   obtain ⟨S,hS⟩:∃X,tq (jaw qs ws i)=X:=⟨_,rfl⟩
   obtain ⟨Y,hY⟩:∃X,tq ((jfw ws i:Int):Rat)=X:=⟨_,rfl⟩
   obtain ⟨R,hR⟩:∃X,tq z=X:=⟨_,rfl⟩
   obtain ⟨g,hg⟩:∃m,jfw ws i=m:=⟨_,rfl⟩
   rw [hS,hY,hR] at HDV
   rw [hY,hg] at HF
   rw [hS,hg,hR]
   have HR:=qh hR
   clear hkk hbb hti dt hS hY hR hg hi hin HB HT H0 HD
   go_wp2_with (first|(go_at_call 47;(with_reducible refine mo0 (HF.out _) fun w1 hb1 hc1 hf1 _=> ?_))|(go_at_call 48;(with_reducible refine mo0 (HDV.out _) fun w2 hb2 hc2 hf2 _=> ?_)))
   go_ret
   exact ⟨by rw [HR.out];rfl,bi⟩
end

theorem jjZ {r:Nat} {t:Rat} (hr:r≤7) (ht:Rat.divInt (r:Int) ((7:Nat):Int)=t):0≤t∧t≤1:=by
 subst ht
 have:r=0∨r=1∨r=2∨r=3∨r=4∨r=5∨r=6∨r=7:=by omega
 rcases this with rfl|rfl|rfl|rfl|rfl|rfl|rfl|rfl <;> decide+kernel
theorem btw {lo hi t:Rat} (h:lo≤hi) (h0:0≤t) (h1:t≤1):lo≤lo+(hi - lo)*t∧lo+(hi - lo)*t≤hi:=by
 have k:0≤(hi - lo)*t:=Rat.mul_nonneg (by grind) h0
 have k2:0≤(hi - lo)*(1 - t):=Rat.mul_nonneg (by grind) (by grind)
 constructor <;> grind
theorem jcd {x lo hi y:Rat} (h1:lo≤x) (h2:x≤hi):(lo*y≤x*y∨hi*y≤x*y)∧(x*y≤lo*y∨x*y≤hi*y):=by
 by_cases h:0≤y
 ·have a1:=Rat.mul_le_mul_of_nonneg_right h1 h
  have a2:=Rat.mul_le_mul_of_nonneg_right h2 h
  exact ⟨.inl a1, .inr a2⟩
 ·have h':0≤ -y:=by grind
  have a1:=Rat.mul_le_mul_of_nonneg_right h1 h'
  have a2:=Rat.mul_le_mul_of_nonneg_right h2 h'
  exact ⟨.inr (by grind), .inl (by grind)⟩
theorem jmY {p q r s z:Rat} (h:p≤z∨q≤z∨r≤z∨s≤z):jeV p [q,r,s]≤z:=by
 rw [←jgH];unfold jpY;grind
theorem jnd {p q r s z:Rat} (h:z≤p∨z≤q∨z≤r∨z≤s):z≤jeW p [q,r,s]:=by
 rw [←jhs];unfold jpW;grind
theorem joc (p q r s:Rat):jeV p [q,r,s]=p∨jeV p [q,r,s]=q∨jeV p [q,r,s]=r∨jeV p [q,r,s]=s:=by
 rw [←jgH];unfold jpY;grind
theorem jnu (p q r s:Rat):jeW p [q,r,s]=p∨jeW p [q,r,s]=q∨jeW p [q,r,s]=r∨jeW p [q,r,s]=s:=by
 rw [←jhs];unfold jpW;grind
theorem jmy {x y x1 x2 y1 y2:Rat} (h1:x1≤x) (h2:x≤x2) (h3:y1≤y) (h4:y≤y2):
  jeV (x1*y1) [x1*y2,x2*y1,x2*y2]≤x*y∧x*y≤jeW (x1*y1) [x1*y2,x2*y1,x2*y2]:=by
 obtain ⟨a1,a2⟩:=jcd (y:=y) h1 h2
 obtain ⟨b1,b2⟩:=jcd (y:=x1) h3 h4
 obtain ⟨c1,c2⟩:=jcd (y:=x2) h3 h4
 rw [Rat.mul_comm y1,Rat.mul_comm y,Rat.mul_comm y2] at b1 b2 c1 c2
 constructor
 ·refine jmY ?_
  grind
 ·refine jnd ?_
  grind
theorem jii {ps qs:List Rat} {ws:List Int}:∀{n:Nat},(∀j,j < n→ps.getD j 0≤qs.getD j 0)→(∀j,j < n→0≤ws.getD j 0)→jaw ps ws n≤jaw qs ws n
 | 0,_,_=>by rw [jaw,jaw];exact Rat.le_refl
 | n+1,h,hw=>by
   rw [jaw,jaw]
   have h1:=jii (n:=n) (fun j hj=>h j (by omega)) (fun j hj=>hw j (by omega))
   have h2:=Rat.mul_le_mul_of_nonneg_right (h n (by omega)) (show (0:Rat)≤((ws.getD n 0:Int):Rat) by have:=hw n (by omega);exact_mod_cast this)
   grind
theorem jol {x:Rat} {k:Nat} {d:Int} (h:Dz k x) (hk:(k:Int)≤d) (hk0:0 < k):Fw d (tq x) x:=by
 refine ⟨rfl, ?_, ?_⟩
 ·have:=jb4 h.num hk0;omega
 ·have:=jb4 h.den hk0;omega
theorem jg4 {x y:Rat} {k:Nat} {d:Int} (hx:Dz k x) (hy:Dz k y) (hk:(k:Int)≤d) (hk0:0 < k) (hd:d≤600) (h:x≤y):jj1 d (tq x,tq y)=true:=by
 have f1:=jol hx hk hk0
 have f2:=jol hy hk hk0
 unfold jj1
 rw [jia ⟨x,f1⟩,jia ⟨y,f2⟩,(f1.is hd).numQ,(f2.is hd).numQ,decide_eq_true h];rfl
end Go.Proofs.YtomkgioebbefnaaGreatDoor
