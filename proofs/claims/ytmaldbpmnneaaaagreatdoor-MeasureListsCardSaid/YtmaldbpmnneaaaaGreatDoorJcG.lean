/- Parts. -/
import Derived.Test.YtmaldbpmnneaaaaGreatDoorMw
set_option linter.all false
set_option maxRecDepth 100000
set_option maxHeartbeats 8000000
namespace Go.Proofs.YtmaldbpmnneaaaaGreatDoor
open Go Go.RowKit

theorem jj0 {l:List Rat} {q:Rat} (h:q∈l):∃j,j < l.length∧l.getD j 0=q:=by
 obtain ⟨j,hj,e⟩:=List.mem_iff_getElem.1 h
 exact ⟨j,hj,by rw [List.getD_eq_getElem?_getD,List.getElem?_eq_getElem hj];exact e⟩
theorem SpIn.szl {w:World} {A:Option Addr} {n:Nat} {ls:List (List UInt8×List UInt8)} {los his:List Rat} (h:SpIn w A n ls los his):∀q∈los,Sz 2 q:=fun q hq=>by
 obtain ⟨j,hj,rfl⟩:=jj0 hq
 exact (h.num j (by rw [←h.lo];exact hj)).2.2.1
theorem SpIn.szh {w:World} {A:Option Addr} {n:Nat} {ls:List (List UInt8×List UInt8)} {los his:List Rat} (h:SpIn w A n ls los his):∀q∈his,Sz 2 q:=fun q hq=>by
 obtain ⟨j,hj,rfl⟩:=jj0 hq
 exact (h.num j (by rw [←h.hi];exact hj)).2.2.2
section
variable {w:World} {A:Option Addr} {n c:Nat} {ls:List (List UInt8×List UInt8)} {los his:List Rat}
theorem jq0 {lo hi:Rat} {tl th:List UInt8} {ke:Int} (hE:Env w) (h:SpIn w A n ls los his) (hlo:jcA (los.getD 0 0) (los.drop 1)=lo) (hhi:jcD (his.getD 0 0) (his.drop 1)=hi) (hS:StrQ lo) (hS':StrQ hi) (htl:jlA lo hi=tl) (hth:jl9 lo hi=th) (hke:jkX lo hi=ke):
  Calls Tryz.prog 6 #[.slice A n c] w fun e w'=>e= .returned (.tuple #[sp tl th, .int .i64 ke])∧Below w.heap.size w w':=by
 have HE:=qh hE
 have HS:=qh h
 have HN:=qh (And.intro h.pos (show n≤100000 by have:=h.le;omega))
 have HQL:=qh h.szl
 have HQH:=qh h.szh
 have HLO:=qh hlo
 have HHI:=qh hhi
 have HSL:=qh hS
 have HSH:=qh hS'
 have HTL:=qh htl
 have HTH:=qh hth
 have HKE:=qh hke
 clear hE h hlo hhi hS hS' htl hth hke
 go_enter Tryz.func6,Tryz.ntmps6
 go_upto_region 4 with (go_at_call 29;((with_reducible refine (jc1 (HE.out.below bi) (HS.out.below bi)).mono ?_);rintro e1 w1 ⟨A11,c11,A21,c21,rfl,hv1,hv2,hb1⟩;have _:=bm hb1);obtain ⟨hc1,hf1,z1_0,_⟩:=bc1 w hb1 (by go_size))
 have HV1:=qh hv1
 have HV2:=qh hv2
 clear hv1 hv2
 go_wp2_with (first
  | (go_at_call 31;(with_reducible refine mf1 w (jdY (HV1.out.below bi) HN.out.1 HN.out.2 HQL.out (by omega) HLO.out) (by go_size) fun w2 s2 A2 n2 c2 t2 B2 m2 d2 hr2 hq2 hb2 hc2 hf2 z2_0 _=> ?_))
  | (go_at_call 32;(with_reducible refine mf1 w (je1 (HV2.out.below bi) HN.out.1 HN.out.2 HQH.out (by omega) HHI.out) (by go_size) fun w3 s3 A3 n3 c3 t3 B3 m3 d3 hr3 hq3 hb3 hc3 hf3 z3_0 _=> ?_))
  | (go_at_call 30;(with_reducible refine mo1 w (jcw HTL.out HTH.out HKE.out (HE.out.below bi) ⟨(by with_reducible repeat first|assumption|apply rZ|refine rP ?_ rfl (by simp [go_sem,hc3])),(by with_reducible repeat first|assumption|apply rZ|refine rP ?_ rfl (by simp [go_sem,hc3]))⟩ ⟨hr3,hq3⟩ HSL.out HSH.out) (by go_size) fun w4 hb4 hc4 hf4 z4_0 _=> ?_)))
 exact bodyPost_ret (v:= .tuple #[sp tl th, .int .i64 ke]) (by simp [results,Tryz.results6,go_sem,hc1,hc2,hc3,hc4,hf1,hf2,hf3,hf4,z1_0,z2_0,z3_0,z4_0]) rfl ⟨rfl,bi⟩
theorem jlD {lo hi:Rat} (hE:Env w) (h:SpIn w A n ls los his) (hlo:jcD (los.getD 0 0) (los.drop 1)=lo) (hhi:jcA (his.getD 0 0) (his.drop 1)=hi) (hz1:Sz 2 lo) (hz2:Sz 2 hi) (hlt:hi < lo):
  Calls Tryz.prog 7 #[.slice A n c] w fun e w'=>e= .returned (.tuple #[sp [] [], .int .i64 15])∧Below w.heap.size w w':=by
 have HE:=qh hE
 have HS:=qh h
 have HN:=qh (And.intro h.pos (show n≤100000 by have:=h.le;omega))
 have HQL:=qh h.szl
 have HQH:=qh h.szh
 have HLO:=qh hlo
 have HHI:=qh hhi
 have HZ1:Hid (Sz 2 lo):=qh hz1
 have HZ2:Hid (Sz 2 hi):=qh hz2
 obtain ⟨g,hg⟩:∃g,Rq.cmpQ lo hi=g:=⟨_,rfl⟩
 have HG:=qh hg
 have q1:decide (0 < g)=true:=by rw [decide_eq_true_iff,←hg,Rq.cmp_pos];exact hlt
 clear hE h hlo hhi hz1 hz2 hg hlt
 go_enter Tryz.func7,Tryz.ntmps7
 go_upto_region 4 with (go_at_call 29;((with_reducible refine (jc1 (HE.out.below bi) (HS.out.below bi)).mono ?_);rintro e1 w1 ⟨A11,c11,A21,c21,rfl,hv1,hv2,hb1⟩;have _:=bm hb1);obtain ⟨hc1,hf1,z1_0,_⟩:=bc1 w hb1 (by go_size))
 have HV1:=qh hv1
 have HV2:=qh hv2
 clear hv1 hv2
 go_upto_region 5 with (first
  | (go_at_call 32;(with_reducible refine mf1 w (je1 (HV1.out.below bi) HN.out.1 HN.out.2 HQL.out (by omega) HLO.out) (by go_size) fun w2 s2 A2 n2 c2 t2 B2 m2 d2 hr2 hq2 hb2 hc2 hf2 z2_0 _=> ?_))
  | (go_at_call 31;(with_reducible refine mf1 w (jdY (HV2.out.below bi) HN.out.1 HN.out.2 HQH.out (by omega) HHI.out) (by go_size) fun w3 s3 A3 n3 c3 t3 B3 m3 d3 hr3 hq3 hb3 hc3 hf3 z3_0 _=> ?_)))
 go_wp2_with ((go_at_call 33;(with_reducible refine mo1 w (jaB 2 2 HG.out ⟨(by with_reducible repeat first|assumption|apply rZ|refine rP ?_ rfl (by simp [go_sem,hc3])),(by with_reducible repeat first|assumption|apply rZ|refine rP ?_ rfl (by simp [go_sem,hc3]))⟩ ⟨(by with_reducible repeat first|assumption|apply rZ|refine rP ?_ rfl (by simp [go_sem,hc3])),(by with_reducible repeat first|assumption|apply rZ|refine rP ?_ rfl (by simp [go_sem,hc3]))⟩ HZ1.out HZ2.out (by omega)) (by go_size) fun w4 hb4 hc4 hf4 z4_0 _=> ?_));have hy1:w.heap.size < w3.heap.size+1:=nls z3_0;have hy2:w.heap.size < w3.heap.size+1+1:=nls hy1)
 exact bodyPost_ret (v:= .tuple #[sp [] [], .int .i64 15]) (by simp [results,Tryz.results7,go_sem,hc1,hc2,hc3,hc4,hf1,hf2,hf3,hf4,z1_0,z2_0,z3_0,z4_0,hy1,hy2]) rfl ⟨rfl,bi⟩
theorem jpQ {lo hi:Rat} {tl th:List UInt8} {ke:Int} (hE:Env w) (h:SpIn w A n ls los his) (hlo:jcD (los.getD 0 0) (los.drop 1)=lo) (hhi:jcA (his.getD 0 0) (his.drop 1)=hi) (hz1:Sz 2 lo) (hz2:Sz 2 hi) (hle:lo≤hi) (hS:StrQ lo) (hS':StrQ hi) (htl:jlA lo hi=tl) (hth:jl9 lo hi=th) (hke:jkX lo hi=ke):
  Calls Tryz.prog 7 #[.slice A n c] w fun e w'=>e= .returned (.tuple #[sp tl th, .int .i64 ke])∧Below w.heap.size w w':=by
 have HE:=qh hE
 have HS:=qh h
 have HN:=qh (And.intro h.pos (show n≤100000 by have:=h.le;omega))
 have HQL:=qh h.szl
 have HQH:=qh h.szh
 have HLO:=qh hlo
 have HHI:=qh hhi
 have HZ1:Hid (Sz 2 lo):=qh hz1
 have HZ2:Hid (Sz 2 hi):=qh hz2
 obtain ⟨g,hg⟩:∃g,Rq.cmpQ lo hi=g:=⟨_,rfl⟩
 have HG:=qh hg
 have HSL:=qh hS
 have HSH:=qh hS'
 have HTL:=qh htl
 have HTH:=qh hth
 have HKE:=qh hke
 have q1:decide (0 < g)=false:=by rw [decide_eq_false_iff_not,←hg,Rq.cmp_pos];exact Rat.not_lt.2 hle
 clear hE h hlo hhi hz1 hz2 hg hle hS hS' htl hth hke
 go_enter Tryz.func7,Tryz.ntmps7
 go_upto_region 4 with (go_at_call 29;((with_reducible refine (jc1 (HE.out.below bi) (HS.out.below bi)).mono ?_);rintro e1 w1 ⟨A11,c11,A21,c21,rfl,hv1,hv2,hb1⟩;have _:=bm hb1);obtain ⟨hc1,hf1,z1_0,_⟩:=bc1 w hb1 (by go_size))
 have HV1:=qh hv1
 have HV2:=qh hv2
 clear hv1 hv2
 go_upto_region 5 with (first
  | (go_at_call 32;(with_reducible refine mf1 w (je1 (HV1.out.below bi) HN.out.1 HN.out.2 HQL.out (by omega) HLO.out) (by go_size) fun w2 s2 A2 n2 c2 t2 B2 m2 d2 hr2 hq2 hb2 hc2 hf2 z2_0 _=> ?_))
  | (go_at_call 31;(with_reducible refine mf1 w (jdY (HV2.out.below bi) HN.out.1 HN.out.2 HQH.out (by omega) HHI.out) (by go_size) fun w3 s3 A3 n3 c3 t3 B3 m3 d3 hr3 hq3 hb3 hc3 hf3 z3_0 _=> ?_)))
 go_wp2_with (first
  | ((go_at_call 33;(with_reducible refine mo1 w (jaB 2 2 HG.out ⟨(by with_reducible repeat first|assumption|apply rZ|refine rP ?_ rfl (by simp [go_sem,hc3])),(by with_reducible repeat first|assumption|apply rZ|refine rP ?_ rfl (by simp [go_sem,hc3]))⟩ ⟨(by with_reducible repeat first|assumption|apply rZ|refine rP ?_ rfl (by simp [go_sem,hc3])),(by with_reducible repeat first|assumption|apply rZ|refine rP ?_ rfl (by simp [go_sem,hc3]))⟩ HZ1.out HZ2.out (by omega)) (by go_size) fun w4 hb4 hc4 hf4 z4_0 _=> ?_));have hy1:w.heap.size < w3.heap.size+1:=nls z3_0;have hy2:w.heap.size < w3.heap.size+1+1:=nls hy1)
  | (go_at_call 30;(with_reducible refine mo1 w (jcw HTL.out HTH.out HKE.out (HE.out.below bi) ⟨(by with_reducible repeat first|assumption|apply rZ|refine rP ?_ rfl (by simp [go_sem,hc3,hc4])),(by with_reducible repeat first|assumption|apply rZ|refine rP ?_ rfl (by simp [go_sem,hc3,hc4]))⟩ ⟨(by with_reducible repeat first|assumption|apply rZ|refine rP ?_ rfl (by simp [go_sem,hc3,hc4])),(by with_reducible repeat first|assumption|apply rZ|refine rP ?_ rfl (by simp [go_sem,hc3,hc4]))⟩ HSL.out HSH.out) (by go_size) fun w5 hb5 hc5 hf5 z5_0 _=> ?_)))
 exact bodyPost_ret (v:= .tuple #[sp tl th, .int .i64 ke]) (by simp [results,Tryz.results7,go_sem,hc1,hc2,hc3,hc4,hc5,hf1,hf2,hf3,hf4,hf5,z1_0,z2_0,z3_0,z4_0,z5_0,hy1,hy2]) rfl ⟨rfl,bi⟩
end

theorem jgm:∀(l:List Rat) (m:Rat),jcD m l∈m::l
 | [],m=>by simp [jcD]
 | a::r,m=>by
   unfold jcD
   split
   ·exact List.mem_cons_of_mem _ (jgm r a)
   ·rcases List.mem_cons.1 (jgm r m) with h|h
    ·rw [h];exact List.mem_cons_self ..
    ·exact List.mem_cons_of_mem _ (List.mem_cons_of_mem _ h)
theorem jfS:∀(l:List Rat) (m:Rat),jcA m l∈m::l
 | [],m=>by simp [jcA]
 | a::r,m=>by
   unfold jcA
   split
   ·exact List.mem_cons_of_mem _ (jfS r a)
   ·rcases List.mem_cons.1 (jfS r m) with h|h
    ·rw [h];exact List.mem_cons_self ..
    ·exact List.mem_cons_of_mem _ (List.mem_cons_of_mem _ h)
theorem jou {los his:List Rat} {i k:Nat}:jfb los his i k=true↔his.getD i 0 < los.getD k 0∨his.getD k 0 < los.getD i 0:=by
 unfold jfb
 rw [Bool.or_eq_true,decide_eq_true_iff,decide_eq_true_iff,Rq.cmp_neg,Rq.cmp_neg]
section
variable {los his:List Rat} {n:Nat}
end
end Go.Proofs.YtmaldbpmnneaaaaGreatDoor
