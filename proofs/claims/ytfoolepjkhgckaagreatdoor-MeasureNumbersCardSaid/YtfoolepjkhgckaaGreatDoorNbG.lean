/- Parts. -/
import Derived.Test.YtfoolepjkhgckaaGreatDoorLfG
import Derived.Test.YtfoolepjkhgckaaGreatDoorUwG
set_option linter.all false
set_option maxRecDepth 100000
set_option maxHeartbeats 8000000
namespace Go.Proofs.YtfoolepjkhgckaaGreatDoor
open Go Go.RowKit

theorem jaX {w:World} {a b:List UInt8} {k:Int} (hE:Env w) (hla:a.length < 4294967281) (hlb:b.length < 4294967281) (hk:ja7 chk [a,b]=k) (W:World) (A:Option Addr) (n c:Nat) (hb:Below w.heap.size w W) (hs:Sv W A n [a,b]) (hn:n≤100000):
  Calls Tryz.prog 63 #[.func (.func 77) #[] #[], .slice A n c] W fun e w'=>e= .returned (.int .i64 k)∧Below W.heap.size W w':=
 hk ▸ jdE hs hn (fun l hl V hV=>jfC ((hE.below hb).below hV) (by
  rcases List.mem_cons.1 hl with rfl|hl
  ·exact hla
  ·rcases List.mem_cons.1 hl with rfl|hl
   ·exact hlb
   ·cases hl))
theorem jb6 {a b:List UInt8} {x y:Rat} (hx:IsNum a x) (hy:IsNum b y):ja7 chk [a,b]=0:=by
 simp [ja7,jaj.2 ⟨x,hx⟩,jaj.2 ⟨y,hy⟩]
section
variable {w:World} {a b:List UInt8} {x y z:Rat} {tz:List UInt8} {ez k:Int}
theorem jna (hE:Env w) (hla:a.length < 4294967281) (hlb:b.length < 4294967281) (hx:IsNum a x) (hy:IsNum b y) (hz:x+y=z) (hS:StrQ z) (ht:jbl z=tz) (he:jba z=ez):
  Calls Tryz.prog 98 #[bs a,bs b, .func (.func 91) #[] #[]] w fun e w'=>e= .returned (.tuple #[bs tz, .int .i64 ez])∧Below w.heap.size w w':=by
 have HE:=qh hE
 have HX:=qh hx
 have HY:=qh hy
 have HZ:=qh hz
 have HS:=qh hS
 have HT:=qh (And.intro ht he)
 have HSX:=qh hx.sz
 have HSY:=qh hy.sz
 have HCA:=qh (jaX hE hla hlb (jb6 hx hy))
 clear hE hx hy hz hS ht he hla hlb
 go_enter Tryz.func98,Tryz.ntmps98
 go_wp2_with (first
  | (go_at_call 63;(with_reducible refine mo0 (HCA.out _ _ _ _ bi (Sv.two w _ a b) (by omega)) fun w1 hb1 hc1 hf1 _=> ?_))
  | (go_at_call 79;(with_reducible show Calls _ _ #[bs a] _ _);(with_reducible refine mf0 (jal HX.out (HE.out.below bi)) fun w2 s2 A2 n2 c2 t2 B2 m2 d2 hr2 hq2 hb2 hc2 hf2 _=> ?_))
  | (go_at_call 79;(with_reducible show Calls _ _ #[bs b] _ _);(with_reducible refine mf0 (jal HY.out (HE.out.below bi)) fun w3 s3 A3 n3 c3 t3 B3 m3 d3 hr3 hq3 hb3 hc3 hf3 _=> ?_))
  | (go_at_call 91;(with_reducible refine mf0 (jbR 600 600 HZ.out ⟨(by with_reducible repeat first|assumption|apply rZ|refine rP ?_ rfl (by simp [go_sem,hc3])),(by with_reducible repeat first|assumption|apply rZ|refine rP ?_ rfl (by simp [go_sem,hc3]))⟩ ⟨hr3,hq3⟩ HSX.out HSY.out (by omega)) fun w4 s4 A4 n4 c4 t4 B4 m4 d4 hr4 hq4 hb4 hc4 hf4 _=> ?_))
  | (go_at_call 58;(with_reducible refine mo0 (jb9 HT.out.1 HT.out.2 ⟨hr4,hq4⟩ (HE.out.below bi) HS.out) fun w5 hb5 hc5 hf5 _=> ?_)))
 go_ret2
 exact ⟨rfl,bi⟩
theorem jnV (hE:Env w) (hla:a.length < 4294967281) (hlb:b.length < 4294967281) (hx:IsNum a x) (hy:IsNum b y) (hz:x - y=z) (hS:StrQ z) (ht:jbl z=tz) (he:jba z=ez):
  Calls Tryz.prog 98 #[bs a,bs b, .func (.func 92) #[] #[]] w fun e w'=>e= .returned (.tuple #[bs tz, .int .i64 ez])∧Below w.heap.size w w':=by
 have HE:=qh hE
 have HX:=qh hx
 have HY:=qh hy
 have HZ:=qh hz
 have HS:=qh hS
 have HT:=qh (And.intro ht he)
 have HSX:=qh hx.sz
 have HSY:=qh hy.sz
 have HCA:=qh (jaX hE hla hlb (jb6 hx hy))
 clear hE hx hy hz hS ht he hla hlb
 go_enter Tryz.func98,Tryz.ntmps98
 go_wp2_with (first
  | (go_at_call 63;(with_reducible refine mo0 (HCA.out _ _ _ _ bi (Sv.two w _ a b) (by omega)) fun w1 hb1 hc1 hf1 _=> ?_))
  | (go_at_call 79;(with_reducible show Calls _ _ #[bs a] _ _);(with_reducible refine mf0 (jal HX.out (HE.out.below bi)) fun w2 s2 A2 n2 c2 t2 B2 m2 d2 hr2 hq2 hb2 hc2 hf2 _=> ?_))
  | (go_at_call 79;(with_reducible show Calls _ _ #[bs b] _ _);(with_reducible refine mf0 (jal HY.out (HE.out.below bi)) fun w3 s3 A3 n3 c3 t3 B3 m3 d3 hr3 hq3 hb3 hc3 hf3 _=> ?_))
  | (go_at_call 92;(with_reducible refine mf0 (jbC 600 600 HZ.out ⟨(by with_reducible repeat first|assumption|apply rZ|refine rP ?_ rfl (by simp [go_sem,hc3])),(by with_reducible repeat first|assumption|apply rZ|refine rP ?_ rfl (by simp [go_sem,hc3]))⟩ ⟨hr3,hq3⟩ HSX.out HSY.out (by omega)) fun w4 s4 A4 n4 c4 t4 B4 m4 d4 hr4 hq4 hb4 hc4 hf4 _=> ?_))
  | (go_at_call 58;(with_reducible refine mo0 (jb9 HT.out.1 HT.out.2 ⟨hr4,hq4⟩ (HE.out.below bi) HS.out) fun w5 hb5 hc5 hf5 _=> ?_)))
 go_ret2
 exact ⟨rfl,bi⟩
theorem jmS (hE:Env w) (hla:a.length < 4294967281) (hlb:b.length < 4294967281) (hx:IsNum a x) (hy:IsNum b y) (hz:x*y=z) (hS:StrQ z) (ht:jbl z=tz) (he:jba z=ez):
  Calls Tryz.prog 98 #[bs a,bs b, .func (.func 60) #[] #[]] w fun e w'=>e= .returned (.tuple #[bs tz, .int .i64 ez])∧Below w.heap.size w w':=by
 have HE:=qh hE
 have HX:=qh hx
 have HY:=qh hy
 have HZ:=qh hz
 have HS:=qh hS
 have HT:=qh (And.intro ht he)
 have HSX:=qh hx.sz
 have HSY:=qh hy.sz
 have HCA:=qh (jaX hE hla hlb (jb6 hx hy))
 clear hE hx hy hz hS ht he hla hlb
 go_enter Tryz.func98,Tryz.ntmps98
 go_wp2_with (first
  | (go_at_call 63;(with_reducible refine mo0 (HCA.out _ _ _ _ bi (Sv.two w _ a b) (by omega)) fun w1 hb1 hc1 hf1 _=> ?_))
  | (go_at_call 79;(with_reducible show Calls _ _ #[bs a] _ _);(with_reducible refine mf0 (jal HX.out (HE.out.below bi)) fun w2 s2 A2 n2 c2 t2 B2 m2 d2 hr2 hq2 hb2 hc2 hf2 _=> ?_))
  | (go_at_call 79;(with_reducible show Calls _ _ #[bs b] _ _);(with_reducible refine mf0 (jal HY.out (HE.out.below bi)) fun w3 s3 A3 n3 c3 t3 B3 m3 d3 hr3 hq3 hb3 hc3 hf3 _=> ?_))
  | (go_at_call 60;(with_reducible refine mf0 (jaD 600 600 HZ.out ⟨(by with_reducible repeat first|assumption|apply rZ|refine rP ?_ rfl (by simp [go_sem,hc3])),(by with_reducible repeat first|assumption|apply rZ|refine rP ?_ rfl (by simp [go_sem,hc3]))⟩ ⟨hr3,hq3⟩ HSX.out HSY.out (by omega)) fun w4 s4 A4 n4 c4 t4 B4 m4 d4 hr4 hq4 hb4 hc4 hf4 _=> ?_))
  | (go_at_call 58;(with_reducible refine mo0 (jb9 HT.out.1 HT.out.2 ⟨hr4,hq4⟩ (HE.out.below bi) HS.out) fun w5 hb5 hc5 hf5 _=> ?_)))
 go_ret2
 exact ⟨rfl,bi⟩
theorem jrQ (hE:Env w) (hla:a.length < 4294967281) (hlb:b.length < 4294967281) (hx:IsNum a x) (hy:IsNum b y) (h0:y≠0) (hz:x / y=z) (hS:StrQ z) (ht:jbl z=tz) (he:jba z=ez):
  Calls Tryz.prog 98 #[bs a,bs b, .func (.func 62) #[] #[]] w fun e w'=>e= .returned (.tuple #[bs tz, .int .i64 ez])∧Below w.heap.size w w':=by
 have H0:=qh h0
 clear h0
 have HE:=qh hE
 have HX:=qh hx
 have HY:=qh hy
 have HZ:=qh hz
 have HS:=qh hS
 have HT:=qh (And.intro ht he)
 have HSX:=qh hx.sz
 have HSY:=qh hy.sz
 have HCA:=qh (jaX hE hla hlb (jb6 hx hy))
 clear hE hx hy hz hS ht he hla hlb
 go_enter Tryz.func98,Tryz.ntmps98
 go_wp2_with (first
  | (go_at_call 63;(with_reducible refine mo0 (HCA.out _ _ _ _ bi (Sv.two w _ a b) (by omega)) fun w1 hb1 hc1 hf1 _=> ?_))
  | (go_at_call 79;(with_reducible show Calls _ _ #[bs a] _ _);(with_reducible refine mf0 (jal HX.out (HE.out.below bi)) fun w2 s2 A2 n2 c2 t2 B2 m2 d2 hr2 hq2 hb2 hc2 hf2 _=> ?_))
  | (go_at_call 79;(with_reducible show Calls _ _ #[bs b] _ _);(with_reducible refine mf0 (jal HY.out (HE.out.below bi)) fun w3 s3 A3 n3 c3 t3 B3 m3 d3 hr3 hq3 hb3 hc3 hf3 _=> ?_))
  | (go_at_call 62;(with_reducible refine mf0 (jbz 600 600 HZ.out ⟨(by with_reducible repeat first|assumption|apply rZ|refine rP ?_ rfl (by simp [go_sem,hc3])),(by with_reducible repeat first|assumption|apply rZ|refine rP ?_ rfl (by simp [go_sem,hc3]))⟩ ⟨hr3,hq3⟩ HSX.out HSY.out (by omega) H0.out) fun w4 s4 A4 n4 c4 t4 B4 m4 d4 hr4 hq4 hb4 hc4 hf4 _=> ?_))
  | (go_at_call 58;(with_reducible refine mo0 (jb9 HT.out.1 HT.out.2 ⟨hr4,hq4⟩ (HE.out.below bi) HS.out) fun w5 hb5 hc5 hf5 _=> ?_)))
 go_ret2
 exact ⟨rfl,bi⟩
theorem jbM {g:FuncId} (hE:Env w) (hla:a.length < 4294967281) (hlb:b.length < 4294967281) (hk:ja7 chk [a,b]=k) (h0:k≠0):
  Calls Tryz.prog 98 #[bs a,bs b, .func (.func g) #[] #[]] w fun e w'=>e= .returned (.tuple #[bs [], .int .i64 k])∧Below w.heap.size w w':=by
 have HCA:=qh (jaX hE hla hlb hk)
 have q1:(k != 0)=true:=by rw [bne_iff_ne];exact h0
 clear hE hla hlb hk h0
 go_enter Tryz.func98,Tryz.ntmps98
 go_wp2_with (go_at_call 63;(with_reducible refine mo0 (HCA.out _ _ _ _ bi (Sv.two w _ a b) (by omega)) fun w1 hb1 hc1 hf1 _=> ?_))
 go_ret2
 exact ⟨rfl,bi⟩
theorem jhd (h:Calls Tryz.prog 98 #[bs a,bs b, .func (.func 91) #[] #[]] w fun e w'=>e= .returned (.tuple #[bs tz, .int .i64 ez])∧Below w.heap.size w w'):
  Calls Tryz.prog 38 #[bs a,bs b] w fun e w'=>e= .returned (.tuple #[bs tz, .int .i64 ez])∧Below w.heap.size w w':=by
 have HJ:=qh h
 clear h
 go_enter Tryz.func38,Tryz.ntmps38
 go_wp2_with (go_at_call 98;(with_reducible refine mo0 (HJ.out) fun w1 hb1 hc1 hf1 _=> ?_))
 go_ret2
 exact ⟨rfl,bi⟩
theorem jgu (h:Calls Tryz.prog 98 #[bs a,bs b, .func (.func 92) #[] #[]] w fun e w'=>e= .returned (.tuple #[bs tz, .int .i64 ez])∧Below w.heap.size w w'):
  Calls Tryz.prog 39 #[bs a,bs b] w fun e w'=>e= .returned (.tuple #[bs tz, .int .i64 ez])∧Below w.heap.size w w':=by
 have HJ:=qh h
 clear h
 go_enter Tryz.func39,Tryz.ntmps39
 go_wp2_with (go_at_call 98;(with_reducible refine mo0 (HJ.out) fun w1 hb1 hc1 hf1 _=> ?_))
 go_ret2
 exact ⟨rfl,bi⟩
theorem jgW (h:Calls Tryz.prog 98 #[bs a,bs b, .func (.func 60) #[] #[]] w fun e w'=>e= .returned (.tuple #[bs tz, .int .i64 ez])∧Below w.heap.size w w'):
  Calls Tryz.prog 40 #[bs a,bs b] w fun e w'=>e= .returned (.tuple #[bs tz, .int .i64 ez])∧Below w.heap.size w w':=by
 have HJ:=qh h
 clear h
 go_enter Tryz.func40,Tryz.ntmps40
 go_wp2_with (go_at_call 98;(with_reducible refine mo0 (HJ.out) fun w1 hb1 hc1 hf1 _=> ?_))
 go_ret2
 exact ⟨rfl,bi⟩
theorem jkc (hE:Env w) (hla:a.length < 4294967281) (hlb:b.length < 4294967281) (hk:ja7 chk [a,b]=k) (h0:k≠0):
  Calls Tryz.prog 41 #[bs a,bs b] w fun e w'=>e= .returned (.tuple #[bs [], .int .i64 k])∧Below w.heap.size w w':=by
 have HCA:=qh (jaX hE hla hlb hk)
 have q1:(k != 0)=true:=by rw [bne_iff_ne];exact h0
 clear hE hla hlb hk h0
 go_enter Tryz.func41,Tryz.ntmps41
 go_wp2_with (go_at_call 63;(with_reducible refine mo0 (HCA.out _ _ _ _ bi (Sv.two w _ a b) (by omega)) fun w1 hb1 hc1 hf1 _=> ?_))
 go_ret2
 exact ⟨rfl,bi⟩
theorem jme (hE:Env w) (hla:a.length < 4294967281) (hx:IsNum a x):
  Calls Tryz.prog 41 #[bs a,bs [48]] w fun e w'=>e= .returned (.tuple #[bs [], .int .i64 6])∧Below w.heap.size w w':=by
 have h48:IsNum [48] 0:=⟨by decide+kernel,by decide+kernel,by decide+kernel⟩
 have HCA:=qh (jaX (b:=[48]) hE hla (by decide) (jb6 hx h48))
 obtain ⟨b,hb⟩:∃b:List UInt8,[48]=b:=⟨_,rfl⟩
 have q1:(b==[48])=true:=by rw [←hb];rfl
 rw [hb] at HCA ⊢
 clear hE hla hx h48 hb
 go_enter Tryz.func41,Tryz.ntmps41
 go_wp2_with (go_at_call 63;(with_reducible refine mo0 (HCA.out _ _ _ _ bi (Sv.two w _ a b) (by omega)) fun w1 hb1 hc1 hf1 _=> ?_))
 go_ret2
 exact ⟨rfl,bi⟩
theorem jsf (hE:Env w) (hla:a.length < 4294967281) (hlb:b.length < 4294967281) (hx:IsNum a x) (hy:IsNum b y) (h0:y≠0) (hz:x / y=z) (hS:StrQ z) (ht:jbl z=tz) (he:jba z=ez):
  Calls Tryz.prog 41 #[bs a,bs b] w fun e w'=>e= .returned (.tuple #[bs tz, .int .i64 ez])∧Below w.heap.size w w':=by
 have HCA:=qh (jaX hE hla hlb (jb6 hx hy))
 have HJ:=qh (fun W (hb:Below w.heap.size w W)=>jrQ (hE.below hb) hla hlb hx hy h0 hz hS ht he)
 have q1:(b==[48])=false:=by rw [hy.eq,jfm];simpa using h0
 clear hE hla hlb hx hy h0 hz hS ht he
 go_enter Tryz.func41,Tryz.ntmps41
 go_wp2_with (first|(go_at_call 63;(with_reducible refine mo0 (HCA.out _ _ _ _ bi (Sv.two w _ a b) (by omega)) fun w1 hb1 hc1 hf1 _=> ?_))|(go_at_call 98;(with_reducible refine mo0 (HJ.out _ bi) fun w2 hb2 hc2 hf2 _=> ?_)))
 go_ret2
 exact ⟨rfl,bi⟩
theorem jjP (hE:Env w) (hla:a.length < 4294967281) (hlb:b.length < 4294967281) (hk:ja7 chk [a,b]=k) (h0:k≠0):
  Calls Tryz.prog 42 #[bs a,bs b] w fun e w'=>e= .returned (.tuple #[.int .i64 0, .int .i64 k])∧Below w.heap.size w w':=by
 have HCA:=qh (jaX hE hla hlb hk)
 have q1:(k != 0)=true:=by rw [bne_iff_ne];exact h0
 clear hE hla hlb hk h0
 go_enter Tryz.func42,Tryz.ntmps42
 go_wp2_with (go_at_call 63;(with_reducible refine mo0 (HCA.out _ _ _ _ bi (Sv.two w _ a b) (by omega)) fun w1 hb1 hc1 hf1 _=> ?_))
 go_ret2
 exact ⟨rfl,bi⟩
theorem jlQ (hE:Env w) (hla:a.length < 4294967281) (hlb:b.length < 4294967281) (hx:IsNum a x) (hy:IsNum b y) (hz:Rq.cmpQ x y=k):
  Calls Tryz.prog 42 #[bs a,bs b] w fun e w'=>e= .returned (.tuple #[.int .i64 k, .int .i64 0])∧Below w.heap.size w w':=by
 have HE:=qh hE
 have HX:=qh hx
 have HY:=qh hy
 have HZ:=qh hz
 have HSX:=qh hx.sz
 have HSY:=qh hy.sz
 have HCA:=qh (jaX hE hla hlb (jb6 hx hy))
 clear hE hx hy hz hla hlb
 go_enter Tryz.func42,Tryz.ntmps42
 go_wp2_with (first
  | (go_at_call 63;(with_reducible refine mo0 (HCA.out _ _ _ _ bi (Sv.two w _ a b) (by omega)) fun w1 hb1 hc1 hf1 _=> ?_))
  | (go_at_call 79;(with_reducible show Calls _ _ #[bs a] _ _);(with_reducible refine mf0 (jal HX.out (HE.out.below bi)) fun w2 s2 A2 n2 c2 t2 B2 m2 d2 hr2 hq2 hb2 hc2 hf2 _=> ?_))
  | (go_at_call 79;(with_reducible show Calls _ _ #[bs b] _ _);(with_reducible refine mf0 (jal HY.out (HE.out.below bi)) fun w3 s3 A3 n3 c3 t3 B3 m3 d3 hr3 hq3 hb3 hc3 hf3 _=> ?_))
  | (go_at_call 95;(with_reducible refine mo0 (jaT 600 600 HZ.out ⟨(by with_reducible repeat first|assumption|apply rZ|refine rP ?_ rfl (by simp [go_sem,hc3])),(by with_reducible repeat first|assumption|apply rZ|refine rP ?_ rfl (by simp [go_sem,hc3]))⟩ ⟨hr3,hq3⟩ HSX.out HSY.out (by omega)) fun w4 hb4 hc4 hf4 _=> ?_)))
 go_ret2
 exact ⟨rfl,bi⟩
theorem jkV (hE:Env w) (hla:a.length < 4294967281) (hk:chk a=k) (h0:k≠0):
  Calls Tryz.prog 43 #[bs a] w fun e w'=>e= .returned (.tuple #[bs [], .int .i64 k])∧Below w.heap.size w w':=by
 have HC:=qh (jaz hk hE hla)
 have q1:(k != 0)=true:=by rw [bne_iff_ne];exact h0
 clear hE hla hk h0
 go_enter Tryz.func43,Tryz.ntmps43
 go_wp2_with (go_at_call 77;(with_reducible refine mo0 (HC.out) fun w1 hb1 hc1 hf1 _=> ?_))
 go_ret2
 exact ⟨rfl,bi⟩
theorem jeJ (hE:Env w) (hla:a.length < 4294967281) (hx:IsNum a x) (hz:((x.floor:Int):Rat)=z) (hS:StrQ z) (ht:jbl z=tz) (he:jba z=ez):
  Calls Tryz.prog 43 #[bs a] w fun e w'=>e= .returned (.tuple #[bs tz, .int .i64 ez])∧Below w.heap.size w w':=by
 have HE:=qh hE
 have HX:=qh hx
 have HZ:=qh hz
 have HS:=qh hS
 have HT:=qh (And.intro ht he)
 have HSX:=qh hx.sz
 have HC:=qh (jaz (jaj.2 ⟨x,hx⟩) hE hla)
 clear hE hx hz hS ht he hla
 go_enter Tryz.func43,Tryz.ntmps43
 go_wp2_with (first
  | (go_at_call 77;(with_reducible refine mo0 (HC.out) fun w1 hb1 hc1 hf1 _=> ?_))
  | (go_at_call 79;(with_reducible refine mf0 (jal HX.out (HE.out.below bi)) fun w2 s2 A2 n2 c2 t2 B2 m2 d2 hr2 hq2 hb2 hc2 hf2 _=> ?_))
  | (go_at_call 100;(with_reducible refine mi0 (jfY ⟨hr2,hq2⟩ HSX.out (by omega)) fun w3 s3 A3 n3 c3 hr3 hb3 hc3 hf3 _=> ?_))
  | (go_at_call 99;(with_reducible refine mf0 (jbh HZ.out hr3) fun w4 s4 A4 n4 c4 t4 B4 m4 d4 hr4 hq4 hb4 hc4 hf4 _=> ?_))
  | (go_at_call 58;(with_reducible refine mo0 (jb9 HT.out.1 HT.out.2 ⟨hr4,hq4⟩ (HE.out.below bi) HS.out) fun w5 hb5 hc5 hf5 _=> ?_)))
 go_ret2
 exact ⟨rfl,bi⟩
end

section
variable {w:World} {a b:List UInt8}
theorem jpc {g n c:Nat} {ls:List (List UInt8)} (hn:n≤1000) (hls:ls.length=n) (hg:∀j,j < n→w.cell? ⟨g,j,none⟩=some (bs (ls.getD j []))) (hc:∀j,j < n→(ls.getD j []).length≤15000):Calls Tryz.prog 19 #[.slice (some ⟨g,0,none⟩) n c] w fun e w'=>e= .returned (.int .i64 (ja7 chk ls))∧Below w.heap.size w w':=by
 obtain ⟨R,hR⟩:∃R,ja7 chk ls=R:=⟨_,rfl⟩
 rw [hR]
 have HR:=qh hR
 have HG:=qh hg
 have HC:=qh hc
 have HL:=qh hls
 clear hg hc hR hls
 go_enter Tryz.func19,Tryz.ntmps19
 go_wp2
 go_loopw [3] (fun u wr=>∃(i:Nat),u= .int .i64 (i:Int)∧i≤n∧Below w.heap.size w wr∧Hid (ja7 chk (ls.drop i)=R)) (fun u _=>n - (intOf u).toNat)
 case atStart=>exact ⟨0,rfl,by omega,Below.refl _ _,HR⟩
 case round=>
  obtain ⟨i,rfl,hi,hb,HI⟩:=hrel
  have _:=bm hb
  rcases Nat.eq_or_lt_of_le hi with e|hl
  ·have q0:decide (i < n)=false:=by rw [decide_eq_false_iff_not];omega
   have e1:R=0:=by rw [←HI.out,List.drop_of_length_le (by rw [HL.out];omega)];rfl
   subst e1
   go_wp2
   go_ret
   exact ⟨rfl,bi⟩
  ·have q0:decide (i < n)=true:=by rw [decide_eq_true_iff];exact hl
   have hci:=ja6 hb (HG.out i hl)
   obtain ⟨k,hk⟩:∃k,chk (ls.getD i [])=k:=⟨_,rfl⟩
   have HK:=qh (fun W=>jaH (w:=W) hk (HC.out i hl))
   have HD:Hid (ja7 chk (ls.getD i []::ls.drop (i+1))=R):=qh (by rw [←jb0 (by rw [HL.out];exact hl)];exact HI.out)
   by_cases h0:k=0
   ·subst h0
    have HD2:Hid (ja7 chk (ls.drop (i+1))=R):=qh (by have:=HD.out;rwa [jad hk] at this)
    obtain ⟨t,ht⟩:∃t,ls.getD i []=t:=⟨_,rfl⟩
    rw [ht] at hci HK
    clear HD HI hk ht
    go_wp2_with (go_at_call 27;(with_reducible refine mo0 (HK.out _) fun w1 hb1 hc1 hf1 _=> ?_))
    exact ⟨⟨i+1,by simp,by omega,bi,HD2⟩,by simp [intOf];omega⟩
   ·have q1:(k != 0)=true:=by rw [bne_iff_ne];exact h0
    have e1:R=k:=by rw [←HD.out,jax (by rw [hk];exact h0),hk]
    subst e1
    obtain ⟨t,ht⟩:∃t,ls.getD i []=t:=⟨_,rfl⟩
    rw [ht] at hci HK
    clear HD HI hk ht h0
    go_wp2_with (go_at_call 27;(with_reducible refine mo0 (HK.out _) fun w1 hb1 hc1 hf1 _=> ?_))
    go_ret
    exact ⟨rfl,bi⟩
theorem jev {k:Int} (hk:ja7 chk [a,b]=k) (la:a.length≤9000) (lb:b.length≤9000) (W:World) (T:TypeId) (c:Nat):Calls Tryz.prog 19 #[.slice (some ⟨W.heap.size,0,none⟩) 2 c] (W.alloc (.cells #[bs a,bs b] T)) fun e w'=>e= .returned (.int .i64 k)∧Below (W.alloc (.cells #[bs a,bs b] T)).heap.size (W.alloc (.cells #[bs a,bs b] T)) w':=
 hk ▸ jpc (n:=2) (ls:=[a,b]) (by omega) rfl
  (fun j hj=>by rcases (show j=0∨j=1 by omega) with rfl|rfl <;> simp [go_sem])
  (fun j hj=>by rcases (show j=0∨j=1 by omega) with rfl|rfl <;> simp <;> omega)
theorem jsk (hE:Env w) (h:¬(a.length≤60∧b.length≤60)):Calls Tryz.prog 7 #[bs a,bs b] w fun e w'=>e= .returned (.bool true)∧Below w.heap.size w w':=by
 have HW:Hid (∀W,Below w.heap.size w W→Calls Tryz.prog 8 #[] W fun e w'=>e= .returned (.bool true)∧Below W.heap.size W w'):=qh (fun W hb=>jas (hE.below hb))
 by_cases h1:a.length≤60
 ·have q1:decide ((60:Int) < (a.length:Int))=false:=by rw [decide_eq_false_iff_not];omega
  have q2:decide ((60:Int) < (b.length:Int))=true:=by rw [decide_eq_true_iff];omega
  clear h h1 hE
  go_enter Tryz.func7,Tryz.ntmps7
  go_wp2_with (go_at_call 8;(with_reducible refine mo0 (HW.out _ bi) fun w1 hb1 hc1 hf1 _=> ?_))
  go_ret
  exact ⟨by first|rfl|simp,bi⟩
 ·have q1:decide ((60:Int) < (a.length:Int))=true:=by rw [decide_eq_true_iff];omega
  clear h h1 hE
  go_enter Tryz.func7,Tryz.ntmps7
  go_wp2_with (go_at_call 8;(with_reducible refine mo0 (HW.out _ bi) fun w1 hb1 hc1 hf1 _=> ?_))
  go_ret
  exact ⟨by first|rfl|simp,bi⟩
set_option maxHeartbeats 16000000 in
theorem jsd {k:Int} (hE:Env w) (la:a.length≤60) (lb:b.length≤60) (hka:chk a=k) (h0:k≠0):Calls Tryz.prog 7 #[bs a,bs b] w fun e w'=>e= .returned (.bool true)∧Below w.heap.size w w':=by
 have HW:Hid (∀W,Below w.heap.size w W→Calls Tryz.prog 8 #[] W fun e w'=>e= .returned (.bool true)∧Below W.heap.size W w'):=qh (fun W hb=>jas (hE.below hb))
 have q1:decide ((60:Int) < (a.length:Int))=false:=by rw [decide_eq_false_iff_not];omega
 have q2:decide ((60:Int) < (b.length:Int))=false:=by rw [decide_eq_false_iff_not];omega
 have hk:ja7 chk [a,b]=k:=by rw [jax (by rw [hka];exact h0)];exact hka
 have HA:=qh (fun W (hb:Below w.heap.size w W)=>jhd (jbM (hE.below hb) (by omega) (by omega) hk h0))
 have HS:=qh (fun W (hb:Below w.heap.size w W)=>jgu (jbM (hE.below hb) (by omega) (by omega) hk h0))
 have HM:=qh (fun W (hb:Below w.heap.size w W)=>jgW (jbM (hE.below hb) (by omega) (by omega) hk h0))
 have HD:=qh (fun W (hb:Below w.heap.size w W)=>jkc (hE.below hb) (by omega) (by omega) hk h0)
 have HC:=qh (fun W (hb:Below w.heap.size w W)=>jjP (hE.below hb) (by omega) (by omega) hk h0)
 have HR:=qh (jev hk (by omega) (by omega))
 have HN:=qh (fun W=>jbn (w:=W) (b:=[]) h0)
 have q5:(k != 0)=true:=by rw [bne_iff_ne];exact h0
 have HF:=qh (fun W (hb:Below w.heap.size w W)=>jkV (hE.below hb) (by omega) hka h0)
 have HK:=qh (fun W=>jaH (w:=W) hka (by omega))
 clear hE la lb hk h0 hka
 go_enter Tryz.func7,Tryz.ntmps7
 go_wp2_with (first|(go_at_call 8;(with_reducible refine mo0 (HW.out _ bi) fun w1 hb1 hc1 hf1 _=> ?_))|(go_at_call 38;(with_reducible refine mo0 (HA.out _ bi) fun w2 hb2 hc2 hf2 _=> ?_))|(go_at_call 39;(with_reducible refine mo0 (HS.out _ bi) fun w3 hb3 hc3 hf3 _=> ?_))|(go_at_call 40;(with_reducible refine mo0 (HM.out _ bi) fun w4 hb4 hc4 hf4 _=> ?_))|(go_at_call 41;(with_reducible refine mo0 (HD.out _ bi) fun w5 hb5 hc5 hf5 _=> ?_))|(go_at_call 42;(with_reducible refine mo0 (HC.out _ bi) fun w6 hb6 hc6 hf6 _=> ?_))|(go_at_call 43;(with_reducible refine mo0 (HF.out _ bi) fun w7 hb7 hc7 hf7 _=> ?_))|(go_at_call 19;(with_reducible refine mo0 (HR.out _ _ _) fun w8 hb8 hc8 hf8 _=> ?_))|(go_at_call 27;(with_reducible refine mo0 (HK.out _) fun w9 hb9 hc9 hf9 _=> ?_))|(go_at_call 14;(with_reducible refine mo0 (HN.out _) fun w10 hb10 hc10 hf10 _=> ?_)))
 go_ret
 exact ⟨by first|rfl|simp,bi⟩
set_option maxHeartbeats 16000000 in
theorem jqV {x:Rat} {k:Int} (hE:Env w) (la:a.length≤60) (lb:b.length≤60) (hx:IsNum a x) (hkb:chk b=k) (h0:k≠0):Calls Tryz.prog 7 #[bs a,bs b] w fun e w'=>e= .returned (.bool true)∧Below w.heap.size w w':=by
 have HW:Hid (∀W,Below w.heap.size w W→Calls Tryz.prog 8 #[] W fun e w'=>e= .returned (.bool true)∧Below W.heap.size W w'):=qh (fun W hb=>jas (hE.below hb))
 have q1:decide ((60:Int) < (a.length:Int))=false:=by rw [decide_eq_false_iff_not];omega
 have q2:decide ((60:Int) < (b.length:Int))=false:=by rw [decide_eq_false_iff_not];omega
 have hk:ja7 chk [a,b]=k:=by rw [jad (jaj.2 ⟨x,hx⟩),jax (by rw [hkb];exact h0)];exact hkb
 have HA:=qh (fun W (hb:Below w.heap.size w W)=>jhd (jbM (hE.below hb) (by omega) (by omega) hk h0))
 have HS:=qh (fun W (hb:Below w.heap.size w W)=>jgu (jbM (hE.below hb) (by omega) (by omega) hk h0))
 have HM:=qh (fun W (hb:Below w.heap.size w W)=>jgW (jbM (hE.below hb) (by omega) (by omega) hk h0))
 have HD:=qh (fun W (hb:Below w.heap.size w W)=>jkc (hE.below hb) (by omega) (by omega) hk h0)
 have HC:=qh (fun W (hb:Below w.heap.size w W)=>jjP (hE.below hb) (by omega) (by omega) hk h0)
 have HR:=qh (jev hk (by omega) (by omega))
 have HN:=qh (fun W=>jbn (w:=W) (b:=[]) h0)
 have q5:(k != 0)=true:=by rw [bne_iff_ne];exact h0
 have dx:=hx.dzl la (by omega)
 have dF:=jcn dx
 obtain ⟨F,hF⟩:∃F,((x.floor:Int):Rat)=F:=⟨_,rfl⟩
 rw [hF] at dF
 obtain ⟨gF,eF,iF⟩:=jat dF (by omega) (by omega)
 have HF:=qh (fun W (hb:Below w.heap.size w W)=>jeJ (hE.below hb) (by omega) hx hF (dF.strQ (by omega)) gF eF)
 have HK:=qh (fun W=>jaH (w:=W) (jaj.2 ⟨x,hx⟩) (by omega))
 have HRF:=qh (fun W=>jck (w:=W) dx (by omega) (by omega))
 have HNF:=qh (fun W=>jaE (w:=W) dF (by omega) (by omega))
 unfold QP at HRF
 rw [hF,←hx.eq] at HRF
 obtain ⟨TF,hTF⟩:∃T,tq F=T:=⟨_,rfl⟩
 rw [hTF] at HF HRF HNF
 clear hE la lb hk h0 hkb hx dx dF hF gF eF iF hTF
 go_enter Tryz.func7,Tryz.ntmps7
 go_wp2_with (first|(go_at_call 8;(with_reducible refine mo0 (HW.out _ bi) fun w1 hb1 hc1 hf1 _=> ?_))|(go_at_call 38;(with_reducible refine mo0 (HA.out _ bi) fun w2 hb2 hc2 hf2 _=> ?_))|(go_at_call 39;(with_reducible refine mo0 (HS.out _ bi) fun w3 hb3 hc3 hf3 _=> ?_))|(go_at_call 40;(with_reducible refine mo0 (HM.out _ bi) fun w4 hb4 hc4 hf4 _=> ?_))|(go_at_call 41;(with_reducible refine mo0 (HD.out _ bi) fun w5 hb5 hc5 hf5 _=> ?_))|(go_at_call 42;(with_reducible refine mo0 (HC.out _ bi) fun w6 hb6 hc6 hf6 _=> ?_))|(go_at_call 43;(with_reducible refine mo0 (HF.out _ bi) fun w7 hb7 hc7 hf7 _=> ?_))|(go_at_call 19;(with_reducible refine mo0 (HR.out _ _ _) fun w8 hb8 hc8 hf8 _=> ?_))|(go_at_call 27;(with_reducible refine mo0 (HK.out _) fun w9 hb9 hc9 hf9 _=> ?_))|(go_at_call 44;(with_reducible refine mo0 (HRF.out _) fun w11 hb11 hc11 hf11 _=> ?_))|(go_at_call 14;(with_reducible show Calls _ _ #[bs [],_,_,_] _ _);(with_reducible refine mo0 (HN.out _) fun w10 hb10 hc10 hf10 _=> ?_))|(go_at_call 14;(with_reducible show Calls _ _ #[bs TF,_,_,_] _ _);(with_reducible refine mo0 (HNF.out _) fun w12 hb12 hc12 hf12 _=> ?_)))
 go_ret
 exact ⟨by first|rfl|simp,bi⟩
set_option maxHeartbeats 16000000 in
theorem jrC {x y:Rat} (hE:Env w) (la:a.length≤60) (lb:b.length≤60) (hx:IsNum a x) (hy:IsNum b y) (h0:y=0):Calls Tryz.prog 7 #[bs a,bs b] w fun e w'=>e= .returned (.bool true)∧Below w.heap.size w w':=by
 have HW:Hid (∀W,Below w.heap.size w W→Calls Tryz.prog 8 #[] W fun e w'=>e= .returned (.bool true)∧Below W.heap.size W w'):=qh (fun W hb=>jas (hE.below hb))
 have q1:decide ((60:Int) < (a.length:Int))=false:=by rw [decide_eq_false_iff_not];omega
 have q2:decide ((60:Int) < (b.length:Int))=false:=by rw [decide_eq_false_iff_not];omega
 have dx:=hx.dzl la (by omega)
 have dF:=jcn dx
 obtain ⟨F,hF⟩:∃F,((x.floor:Int):Rat)=F:=⟨_,rfl⟩
 rw [hF] at dF
 obtain ⟨gF,eF,iF⟩:=jat dF (by omega) (by omega)
 have HF:=qh (fun W (hb:Below w.heap.size w W)=>jeJ (hE.below hb) (by omega) hx hF (dF.strQ (by omega)) gF eF)
 have HK:=qh (fun W=>jaH (w:=W) (jaj.2 ⟨x,hx⟩) (by omega))
 have HRF:=qh (fun W=>jck (w:=W) dx (by omega) (by omega))
 have HNF:=qh (fun W=>jaE (w:=W) dF (by omega) (by omega))
 unfold QP at HRF
 rw [hF,←hx.eq] at HRF
 obtain ⟨TF,hTF⟩:∃T,tq F=T:=⟨_,rfl⟩
 rw [hTF] at HF HRF HNF
 have dy:=hy.dzl lb (by omega)
 obtain ⟨P,hP⟩:∃P,x+y=P:=⟨_,rfl⟩
 obtain ⟨Q,hQ⟩:∃P,x - y=P:=⟨_,rfl⟩
 obtain ⟨R,hR⟩:∃P,x*y=P:=⟨_,rfl⟩
 obtain ⟨z,hz⟩:∃z,Rq.cmpQ x y=z:=⟨_,rfl⟩
 have dP:Dz 200 P:=hP ▸ (dx.add dy).mono (by omega)
 have dQ:Dz 200 Q:=hQ ▸ (dx.sub dy).mono (by omega)
 have dR:Dz 200 R:=hR ▸ (dx.mul dy).mono (by omega)
 obtain ⟨gP,eP,iP⟩:=jat dP (by omega) (by omega)
 obtain ⟨gQ,eQ,iQ⟩:=jat dQ (by omega) (by omega)
 obtain ⟨gR,eR,iR⟩:=jat dR (by omega) (by omega)
 have HA:=qh (fun W (hb:Below w.heap.size w W)=>jhd (jna (hE.below hb) (by omega) (by omega) hx hy hP (dP.strQ (by omega)) gP eP))
 have HS:=qh (fun W (hb:Below w.heap.size w W)=>jgu (jnV (hE.below hb) (by omega) (by omega) hx hy hQ (dQ.strQ (by omega)) gQ eQ))
 have HM:=qh (fun W (hb:Below w.heap.size w W)=>jgW (jmS (hE.below hb) (by omega) (by omega) hx hy hR (dR.strQ (by omega)) gR eR))
 have HC:=qh (fun W (hb:Below w.heap.size w W)=>jlQ (hE.below hb) (by omega) (by omega) hx hy hz)
 have HR:=qh (jev (jb6 hx hy) (by omega) (by omega))
 have HRA:=qh (fun W=>jdP (w:=W) dx dy (by omega) (by omega) (by omega) (by omega))
 have HRS:=qh (fun W=>jca (w:=W) dx dy (by omega) (by omega) (by omega) (by omega))
 have HRM:=qh (fun W=>jbg (w:=W) dx dy (by omega) (by omega) (by omega) (by omega))
 have HRC:=qh (fun W=>jcq (w:=W) hz dx dy (by omega) (by omega) (by omega) (by omega))
 have HNA:=qh (fun W=>jaE (w:=W) dP (by omega) (by omega))
 have HNS:=qh (fun W=>jaE (w:=W) dQ (by omega) (by omega))
 have HNM:=qh (fun W=>jaE (w:=W) dR (by omega) (by omega))
 unfold QP at HRA HRS HRM
 rw [hP,←hx.eq,←hy.eq] at HRA
 rw [hQ,←hx.eq,←hy.eq] at HRS
 rw [hR,←hx.eq,←hy.eq] at HRM
 rw [←hx.eq,←hy.eq] at HRC
 obtain ⟨TP,tP⟩:∃T,tq P=T:=⟨_,rfl⟩
 obtain ⟨TQ,tQ⟩:∃T,tq Q=T:=⟨_,rfl⟩
 obtain ⟨TR,tR⟩:∃T,tq R=T:=⟨_,rfl⟩
 rw [tP] at HA HRA HNA
 rw [tQ] at HS HRS HNS
 rw [tR] at HM HRM HNM
 have eb:b=[48]:=by rw [hy.eq,h0];exact jeS
 have HD:=qh (fun W (hb:Below w.heap.size w W)=>jme (hE.below hb) (by omega) hx)
 have HZ:=qh (fun W=>jgc (w:=W) (x:=y) (b:=true) (by simpa using h0))
 have HN:=qh (fun W=>jbn (w:=W) (b:=[]) (g:=6) (by decide))
 rw [←eb] at HD
 rw [←hy.eq] at HZ
 clear h0 eb
 clear hE la lb hx hy dx dy dF hF gF eF iF hTF hP hQ hR hz dP dQ dR gP eP iP gQ eQ iQ gR eR iR tP tQ tR
 go_enter Tryz.func7,Tryz.ntmps7
 go_wp2_with (first|(go_at_call 8;(with_reducible refine mo0 (HW.out _ bi) fun w1 hb1 hc1 hf1 _=> ?_))|(go_at_call 38;(with_reducible refine mo0 (HA.out _ bi) fun w2 hb2 hc2 hf2 _=> ?_))|(go_at_call 39;(with_reducible refine mo0 (HS.out _ bi) fun w3 hb3 hc3 hf3 _=> ?_))|(go_at_call 40;(with_reducible refine mo0 (HM.out _ bi) fun w4 hb4 hc4 hf4 _=> ?_))|(go_at_call 41;(with_reducible refine mo0 (HD.out _ bi) fun w5 hb5 hc5 hf5 _=> ?_))|(go_at_call 42;(with_reducible refine mo0 (HC.out _ bi) fun w6 hb6 hc6 hf6 _=> ?_))|(go_at_call 43;(with_reducible refine mo0 (HF.out _ bi) fun w7 hb7 hc7 hf7 _=> ?_))|(go_at_call 19;(with_reducible refine mo0 (HR.out _ _ _) fun w8 hb8 hc8 hf8 _=> ?_))|(go_at_call 27;(with_reducible refine mo0 (HK.out _) fun w9 hb9 hc9 hf9 _=> ?_))|(go_at_call 44;(with_reducible refine mo0 (HRF.out _) fun w11 hb11 hc11 hf11 _=> ?_))|(go_at_call 45;(with_reducible refine mo0 (HRA.out _) fun w13 hb13 hc13 hf13 _=> ?_))|(go_at_call 21;(with_reducible refine mo0 (HRS.out _) fun w14 hb14 hc14 hf14 _=> ?_))|(go_at_call 20;(with_reducible refine mo0 (HRM.out _) fun w15 hb15 hc15 hf15 _=> ?_))|(go_at_call 22;(with_reducible refine mo0 (HRC.out _) fun w16 hb16 hc16 hf16 _=> ?_))|(go_at_call 46;(with_reducible refine mo0 (HZ.out _) fun w17 hb17 hc17 hf17 _=> ?_))|(go_at_call 14;(with_reducible show Calls _ _ #[bs TF,_,_,_] _ _);(with_reducible refine mo0 (HNF.out _) fun w12 hb12 hc12 hf12 _=> ?_))|(go_at_call 14;(with_reducible show Calls _ _ #[bs TP,_,_,_] _ _);(with_reducible refine mo0 (HNA.out _) fun w18 hb18 hc18 hf18 _=> ?_))|(go_at_call 14;(with_reducible show Calls _ _ #[bs TQ,_,_,_] _ _);(with_reducible refine mo0 (HNS.out _) fun w19 hb19 hc19 hf19 _=> ?_))|(go_at_call 14;(with_reducible show Calls _ _ #[bs TR,_,_,_] _ _);(with_reducible refine mo0 (HNM.out _) fun w20 hb20 hc20 hf20 _=> ?_))|(go_at_call 14;(with_reducible refine mo0 (HN.out _) fun w10 hb10 hc10 hf10 _=> ?_)))
 go_ret
 exact ⟨by first|rfl|simp,bi⟩
set_option maxHeartbeats 16000000 in
theorem jtC {x y:Rat} (hE:Env w) (la:a.length≤60) (lb:b.length≤60) (hx:IsNum a x) (hy:IsNum b y) (h0:y≠0):Calls Tryz.prog 7 #[bs a,bs b] w fun e w'=>e= .returned (.bool true)∧Below w.heap.size w w':=by
 have HW:Hid (∀W,Below w.heap.size w W→Calls Tryz.prog 8 #[] W fun e w'=>e= .returned (.bool true)∧Below W.heap.size W w'):=qh (fun W hb=>jas (hE.below hb))
 have q1:decide ((60:Int) < (a.length:Int))=false:=by rw [decide_eq_false_iff_not];omega
 have q2:decide ((60:Int) < (b.length:Int))=false:=by rw [decide_eq_false_iff_not];omega
 have dx:=hx.dzl la (by omega)
 have dF:=jcn dx
 obtain ⟨F,hF⟩:∃F,((x.floor:Int):Rat)=F:=⟨_,rfl⟩
 rw [hF] at dF
 obtain ⟨gF,eF,iF⟩:=jat dF (by omega) (by omega)
 have HF:=qh (fun W (hb:Below w.heap.size w W)=>jeJ (hE.below hb) (by omega) hx hF (dF.strQ (by omega)) gF eF)
 have HK:=qh (fun W=>jaH (w:=W) (jaj.2 ⟨x,hx⟩) (by omega))
 have HRF:=qh (fun W=>jck (w:=W) dx (by omega) (by omega))
 have HNF:=qh (fun W=>jaE (w:=W) dF (by omega) (by omega))
 unfold QP at HRF
 rw [hF,←hx.eq] at HRF
 obtain ⟨TF,hTF⟩:∃T,tq F=T:=⟨_,rfl⟩
 rw [hTF] at HF HRF HNF
 have dy:=hy.dzl lb (by omega)
 obtain ⟨P,hP⟩:∃P,x+y=P:=⟨_,rfl⟩
 obtain ⟨Q,hQ⟩:∃P,x - y=P:=⟨_,rfl⟩
 obtain ⟨R,hR⟩:∃P,x*y=P:=⟨_,rfl⟩
 obtain ⟨z,hz⟩:∃z,Rq.cmpQ x y=z:=⟨_,rfl⟩
 have dP:Dz 200 P:=hP ▸ (dx.add dy).mono (by omega)
 have dQ:Dz 200 Q:=hQ ▸ (dx.sub dy).mono (by omega)
 have dR:Dz 200 R:=hR ▸ (dx.mul dy).mono (by omega)
 obtain ⟨gP,eP,iP⟩:=jat dP (by omega) (by omega)
 obtain ⟨gQ,eQ,iQ⟩:=jat dQ (by omega) (by omega)
 obtain ⟨gR,eR,iR⟩:=jat dR (by omega) (by omega)
 have HA:=qh (fun W (hb:Below w.heap.size w W)=>jhd (jna (hE.below hb) (by omega) (by omega) hx hy hP (dP.strQ (by omega)) gP eP))
 have HS:=qh (fun W (hb:Below w.heap.size w W)=>jgu (jnV (hE.below hb) (by omega) (by omega) hx hy hQ (dQ.strQ (by omega)) gQ eQ))
 have HM:=qh (fun W (hb:Below w.heap.size w W)=>jgW (jmS (hE.below hb) (by omega) (by omega) hx hy hR (dR.strQ (by omega)) gR eR))
 have HC:=qh (fun W (hb:Below w.heap.size w W)=>jlQ (hE.below hb) (by omega) (by omega) hx hy hz)
 have HR:=qh (jev (jb6 hx hy) (by omega) (by omega))
 have HRA:=qh (fun W=>jdP (w:=W) dx dy (by omega) (by omega) (by omega) (by omega))
 have HRS:=qh (fun W=>jca (w:=W) dx dy (by omega) (by omega) (by omega) (by omega))
 have HRM:=qh (fun W=>jbg (w:=W) dx dy (by omega) (by omega) (by omega) (by omega))
 have HRC:=qh (fun W=>jcq (w:=W) hz dx dy (by omega) (by omega) (by omega) (by omega))
 have HNA:=qh (fun W=>jaE (w:=W) dP (by omega) (by omega))
 have HNS:=qh (fun W=>jaE (w:=W) dQ (by omega) (by omega))
 have HNM:=qh (fun W=>jaE (w:=W) dR (by omega) (by omega))
 unfold QP at HRA HRS HRM
 rw [hP,←hx.eq,←hy.eq] at HRA
 rw [hQ,←hx.eq,←hy.eq] at HRS
 rw [hR,←hx.eq,←hy.eq] at HRM
 rw [←hx.eq,←hy.eq] at HRC
 obtain ⟨TP,tP⟩:∃T,tq P=T:=⟨_,rfl⟩
 obtain ⟨TQ,tQ⟩:∃T,tq Q=T:=⟨_,rfl⟩
 obtain ⟨TR,tR⟩:∃T,tq R=T:=⟨_,rfl⟩
 rw [tP] at HA HRA HNA
 rw [tQ] at HS HRS HNS
 rw [tR] at HM HRM HNM
 obtain ⟨S,hS⟩:∃P,x / y=P:=⟨_,rfl⟩
 have dS:Dz 200 S:=hS ▸ (dx.div dy h0).mono (by omega)
 obtain ⟨gS,eS,iS⟩:=jat dS (by omega) (by omega)
 have HD:=qh (fun W (hb:Below w.heap.size w W)=>jsf (hE.below hb) (by omega) (by omega) hx hy h0 hS (dS.strQ (by omega)) gS eS)
 have HZ:=qh (fun W=>jgc (w:=W) (x:=y) (b:=false) (by simpa using h0))
 have HRD:=qh (fun W=>jfp (w:=W) dx dy (by omega) (by omega) (by omega) (by omega) h0)
 have HND:=qh (fun W=>jaE (w:=W) dS (by omega) (by omega))
 unfold QP at HRD
 rw [hS,←hx.eq,←hy.eq] at HRD
 rw [←hy.eq] at HZ
 obtain ⟨TS,tS⟩:∃T,tq S=T:=⟨_,rfl⟩
 rw [tS] at HD HRD HND
 clear h0 hS dS gS eS iS tS
 clear hE la lb hx hy dx dy dF hF gF eF iF hTF hP hQ hR hz dP dQ dR gP eP iP gQ eQ iQ gR eR iR tP tQ tR
 go_enter Tryz.func7,Tryz.ntmps7
 go_wp2_with (first|(go_at_call 8;(with_reducible refine mo0 (HW.out _ bi) fun w1 hb1 hc1 hf1 _=> ?_))|(go_at_call 38;(with_reducible refine mo0 (HA.out _ bi) fun w2 hb2 hc2 hf2 _=> ?_))|(go_at_call 39;(with_reducible refine mo0 (HS.out _ bi) fun w3 hb3 hc3 hf3 _=> ?_))|(go_at_call 40;(with_reducible refine mo0 (HM.out _ bi) fun w4 hb4 hc4 hf4 _=> ?_))|(go_at_call 41;(with_reducible refine mo0 (HD.out _ bi) fun w5 hb5 hc5 hf5 _=> ?_))|(go_at_call 42;(with_reducible refine mo0 (HC.out _ bi) fun w6 hb6 hc6 hf6 _=> ?_))|(go_at_call 43;(with_reducible refine mo0 (HF.out _ bi) fun w7 hb7 hc7 hf7 _=> ?_))|(go_at_call 19;(with_reducible refine mo0 (HR.out _ _ _) fun w8 hb8 hc8 hf8 _=> ?_))|(go_at_call 27;(with_reducible refine mo0 (HK.out _) fun w9 hb9 hc9 hf9 _=> ?_))|(go_at_call 44;(with_reducible refine mo0 (HRF.out _) fun w11 hb11 hc11 hf11 _=> ?_))|(go_at_call 45;(with_reducible refine mo0 (HRA.out _) fun w13 hb13 hc13 hf13 _=> ?_))|(go_at_call 21;(with_reducible refine mo0 (HRS.out _) fun w14 hb14 hc14 hf14 _=> ?_))|(go_at_call 20;(with_reducible refine mo0 (HRM.out _) fun w15 hb15 hc15 hf15 _=> ?_))|(go_at_call 22;(with_reducible refine mo0 (HRC.out _) fun w16 hb16 hc16 hf16 _=> ?_))|(go_at_call 46;(with_reducible refine mo0 (HZ.out _) fun w17 hb17 hc17 hf17 _=> ?_))|(go_at_call 14;(with_reducible show Calls _ _ #[bs TF,_,_,_] _ _);(with_reducible refine mo0 (HNF.out _) fun w12 hb12 hc12 hf12 _=> ?_))|(go_at_call 14;(with_reducible show Calls _ _ #[bs TP,_,_,_] _ _);(with_reducible refine mo0 (HNA.out _) fun w18 hb18 hc18 hf18 _=> ?_))|(go_at_call 14;(with_reducible show Calls _ _ #[bs TQ,_,_,_] _ _);(with_reducible refine mo0 (HNS.out _) fun w19 hb19 hc19 hf19 _=> ?_))|(go_at_call 14;(with_reducible show Calls _ _ #[bs TR,_,_,_] _ _);(with_reducible refine mo0 (HNM.out _) fun w20 hb20 hc20 hf20 _=> ?_))|(go_at_call 47;(with_reducible refine mo0 (HRD.out _) fun w21 hb21 hc21 hf21 _=> ?_))|(go_at_call 14;(with_reducible show Calls _ _ #[bs TS,_,_,_] _ _);(with_reducible refine mo0 (HND.out _) fun w22 hb22 hc22 hf22 _=> ?_)))
 go_ret
 exact ⟨by first|rfl|simp,bi⟩
theorem jre (hE:Env w):Calls Tryz.prog 7 #[bs a,bs b] w fun e w'=>e= .returned (.bool true)∧Below w.heap.size w w':=by
 by_cases hl:a.length≤60∧b.length≤60
 ·by_cases h1:chk a=0
  ·by_cases h2:chk b=0
   ·by_cases h3:numQ b=0
    ·exact jrC hE hl.1 hl.2 (jaB h1) (jaB h2) h3
    ·exact jtC hE hl.1 hl.2 (jaB h1) (jaB h2) h3
   ·exact jqV hE hl.1 hl.2 (jaB h1) rfl h2
  ·exact jsd hE hl.1 hl.2 rfl h1
 ·exact jsk hE hl
end
end Go.Proofs.YtfoolepjkhgckaaGreatDoor
