/- Parts. -/
import Derived.Test.YteokfcjdfjhhhaaGreatDoorMpG
set_option linter.all false
set_option maxRecDepth 100000
set_option maxHeartbeats 8000000
namespace Go.Proofs.YteokfcjdfjhhhaaGreatDoor
open Go Go.RowKit

abbrev sp (a b:List UInt8):Value:= .agg #[bs a,bs b]
abbrev s2v (s:Int) (A:Option Addr) (n c:Nat) (t:Int) (B:Option Addr) (m d:Nat) (u:Int) (C:Option Addr) (i k:Nat) (v:Int) (D:Option Addr) (j l:Nat):Value:=
 .agg #[.int .i64 s, .slice A n c, .int .i64 t, .slice B m d, .int .i64 u, .slice C i k, .int .i64 v, .slice D j l]
def jnZ (x y:Rat) (w:World) (e:Ending) (w':World):Prop:=
 ∃s A n c t B m d u C i k v D j l,e= .returned (s2v s A n c t B m d u C i k v D j l)∧RepF w' s A n c t B m d x∧RepF w' u C i k v D j l y∧Below w.heap.size w w'
section
variable {w:World} {a b:List UInt8} {x y:Rat}
theorem jaU (hE:Env w) (ha:IsNum a x) (hb:IsNum b y):Calls Tryz.prog 67 #[sp a b] w (jnZ x y w):=by
 have HE:=qh hE;have HA:=qh ha;have HB:=qh hb;clear hE ha hb;go_enter Tryz.func67,Tryz.ntmps67;go_upto_region 1 with (fail)
 refine ja3 (fun w'=>Below ((w.alloc (.cells #[bs a,bs b] 52)).alloc (.cells #[.int .i64 0, .slice none 0 0, .int .i64 0, .slice none 0 0, .int .i64 0, .slice none 0 0, .int .i64 0, .slice none 0 0] 106)).heap.size ((w.alloc (.cells #[bs a,bs b] 52)).alloc (.cells #[.int .i64 0, .slice none 0 0, .int .i64 0, .slice none 0 0, .int .i64 0, .slice none 0 0, .int .i64 0, .slice none 0 0] 106)) w') [7] (by kernel_rfl) ?_;refine tb 0 (.pointer (some ⟨w.heap.size,0,none⟩)) [1] rfl (by kernel_rfl) pk rfl (by intros;go_simp) bq0 ?_;refine tb 1 (bs a) [2] rfl (by kernel_rfl) pk rfl (by intros;go_simp) bq0 ?_;refine tb 3 (.pointer (some ⟨w.heap.size,1,none⟩)) [4] rfl (by kernel_rfl) pk rfl (by intros;go_simp) bq0 ?_;refine tb 4 (bs b) [5] rfl (by kernel_rfl) pk rfl (by intros;go_simp) bq0 ?_;simp only [ppq];refine rd1 2 (by kernel_rfl) rfl (fun K hK=> ?_);go_simp;go_wp2_with (go_at_call 31;(with_reducible refine mf2 w (jaz HA.out (HE.out.below bi)) (by go_size) fun w1 s1 A1 n1 c1 t1 B1 m1 d1 hr1 hq1 hb1 hc1 hf1 z1_0 z1_1 _=> ?_))
 have sS1:=qh (bst bq0 hb1);refine hK.out _ _ (fun _=>sS1.out) ?_;clear hK K;refine rd1 5 (by kernel_rfl) rfl (fun K hK=> ?_);go_simp;go_wp2_with (go_at_call 31;(with_reducible refine mf2 w (jaz HB.out (HE.out.below bi)) (by go_size) fun w2 s2 A2 n2 c2 t2 B2 m2 d2 hr2 hq2 hb2 hc2 hf2 z2_0 z2_1 _=> ?_))
 have sS2:=qh (bst sS1.out hb2);refine hK.out _ _ (fun _=>sS2.out) ?_;clear hK K;refine rd1 6 (by kernel_rfl) rfl (fun K hK=> ?_);go_simp;refine hK.out _ _ (fun _=>bi) ?_;clear hK K;refine rd1 7 (by kernel_rfl) rfl (fun K hK=> ?_);go_simp;refine hK.out _ _ (fun h=>(h (by decide)).elim) ?_;clear hK K;refine ja2 (by kernel_rfl) ?_ _;go_wp2;refine bodyPost_ret (v:=s2v s1 A1 n1 c1 t1 B1 m1 d1 s2 A2 n2 c2 t2 B2 m2 d2) (by simp [results,Tryz.results67,go_sem,hc1,hc2,hf1,hf2,z1_1,z2_1]) rfl ⟨s1,A1,n1,c1,t1,B1,m1,d1,s2,A2,n2,c2,t2,B2,m2,d2,rfl,⟨(by with_reducible repeat first|assumption|apply rZ|refine rP ?_ rfl (by simp [go_sem,hc1,hc2,hf1,hf2,z1_1,z2_1])),(by with_reducible repeat first|assumption|apply rZ|refine rP ?_ rfl (by simp [go_sem,hc1,hc2,hf1,hf2,z1_1,z2_1]))⟩,⟨(by with_reducible repeat first|assumption|apply rZ|refine rP ?_ rfl (by simp [go_sem,hc1,hc2,hf1,hf2,z1_1,z2_1])),(by with_reducible repeat first|assumption|apply rZ|refine rP ?_ rfl (by simp [go_sem,hc1,hc2,hf1,hf2,z1_1,z2_1]))⟩,bi⟩
end
section
variable {w:World} {sx tx sy ty:Int} {Ax Bx Ay By:Option Addr} {nx cx mx dx ny cy my dy:Nat} {x y:Rat}
theorem jhj {w:World} {s t:Int} {A B:Option Addr} {n c m d:Nat} {x:Rat} (h:RepF w s A n c t B m d x) (hE:Env w) (hS:StrQ x) (hg:jdY x=false):Calls Tryz.prog 102 #[fv s A n c t B m d] w fun e w'=>e= .returned (bs (tq x))∧Below w.heap.size w w':=jjn h hE hS (DigQ.of hg)
theorem jng {tx' ty':List UInt8} (hE:Env w) (hx:RepF w sx Ax nx cx tx Bx mx dx x) (hy:RepF w sy Ay ny cy ty By my dy y) (hS:StrQ x) (hS':StrQ y) (hg:jdY x=false) (hg':jdY y=false) (htx:tq x=tx') (hty:tq y=ty'):
  Calls Tryz.prog 68 #[fv sx Ax nx cx tx Bx mx dx,fv sy Ay ny cy ty By my dy] w fun e w'=>e= .returned (.tuple #[sp tx' ty', .int .i64 0])∧Below w.heap.size w w':=by
 have HE:=qh hE;have HX:=qh hx;have HY:=qh hy;have HS:=qh hS;have HS':=qh hS';have HG:=qh hg;have HG':=qh hg';subst htx hty;obtain ⟨tx',htx⟩:∃l,tq x=l:=⟨_,rfl⟩;obtain ⟨ty',hty⟩:∃l,tq y=l:=⟨_,rfl⟩;have HT1:Hid (∀W,Below w.heap.size w W→Calls Tryz.prog 102 #[fv sx Ax nx cx tx Bx mx dx] W fun e w'=>e= .returned (bs tx')∧Below W.heap.size W w'):=qh (fun W hb=>htx ▸ jhj (hx.below hb) (hE.below hb) hS hg);have HT2:Hid (∀W,Below w.heap.size w W→Calls Tryz.prog 102 #[fv sy Ay ny cy ty By my dy] W fun e w'=>e= .returned (bs ty')∧Below W.heap.size W w'):=qh (fun W hb=>hty ▸ jhj (hy.below hb) (hE.below hb) hS' hg');rw [htx,hty];clear hE hx hy hS hS' hg hg' htx hty;go_enter Tryz.func68,Tryz.ntmps68
 go_upto_region 3 with (first
  | (go_at_call 101;(with_reducible show Calls _ _ #[.agg #[.int .i64 sx, .slice Ax nx cx, .int .i64 tx, .slice Bx mx dx]] _ _);(with_reducible refine mo3 w (jbd HG.out (HX.out.below bi) (HE.out.below bi) HS.out) (by go_size) fun w1 hb1 hc1 hf1 z1_0 z1_1 z1_2 _=> ?_))
  | (go_at_call 101;(with_reducible show Calls _ _ #[.agg #[.int .i64 sy, .slice Ay ny cy, .int .i64 ty, .slice By my dy]] _ _);(with_reducible refine mo3 w (jbd HG'.out (HY.out.below bi) (HE.out.below bi) HS'.out) (by go_size) fun w2 hb2 hc2 hf2 z2_0 z2_1 z2_2 _=> ?_)))
 refine ja3 (fun w'=>Below w2.heap.size w2 w') [5,6] (by kernel_rfl) ?_;refine tb 0 (fv sx Ax nx cx tx Bx mx dx) [1] rfl (by kernel_rfl) pk rfl (by intros;go_simp) bq0 ?_;refine tb 2 (fv sy Ay ny cy ty By my dy) [3] rfl (by kernel_rfl) pk rfl (by intros;go_simp) bq0 ?_;simp only [ppq];refine rd1 1 (by kernel_rfl) rfl (fun K hK=> ?_);go_simp;go_wp2_with (go_at_call 102;(with_reducible refine mo3 w (HT1.out _ bi) (by go_size) fun w3 hb3 hc3 hf3 z3_0 z3_1 z3_2 _=> ?_))
 have sS3:=qh (bst bq0 hb3);refine hK.out _ _ (fun _=>sS3.out) ?_;clear hK K;refine rd1 3 (by kernel_rfl) rfl (fun K hK=> ?_);go_simp;go_wp2_with (go_at_call 102;(with_reducible refine mo3 w (HT2.out _ bi) (by go_size) fun w4 hb4 hc4 hf4 z4_0 z4_1 z4_2 _=> ?_))
 have sS4:=qh (bst sS3.out hb4);refine hK.out _ _ (fun _=>sS4.out) ?_;clear hK K;refine rd1 4 (by kernel_rfl) rfl (fun K hK=> ?_);go_simp;refine hK.out _ _ (fun _=>bi) ?_;clear hK K;refine rd1 5 (by kernel_rfl) rfl (fun K hK=> ?_);go_simp;refine hK.out _ _ (fun h=>(h (by decide)).elim) ?_;clear hK K;refine rd1 6 (by kernel_rfl) rfl (fun K hK=> ?_);go_simp;refine hK.out _ _ (fun h=>(h (by decide)).elim) ?_;clear hK K;refine ja2 (by kernel_rfl) ?_ _;go_wp2;exact bodyPost_ret (v:= .tuple #[sp tx' ty', .int .i64 0]) (by simp [results,Tryz.results68,go_sem,hc1,hc2,hc3,hc4,hf1,hf2,hf3,hf4,z1_2,z2_2,z3_2,z4_2]) rfl ⟨rfl,bi⟩
theorem jgN (hE:Env w) (hx:RepF w sx Ax nx cx tx Bx mx dx x) (hy:RepF w sy Ay ny cy ty By my dy y) (hS:StrQ x) (hS':StrQ y) (hg:jdY x=true):
  Calls Tryz.prog 68 #[fv sx Ax nx cx tx Bx mx dx,fv sy Ay ny cy ty By my dy] w fun e w'=>e= .returned (.tuple #[sp [] [], .int .i64 4])∧Below w.heap.size w w':=by
 have HE:=qh hE;have HX:=qh hx;have HS:=qh hS;have HG:=qh hg;clear hE hx hy hS hS' hg;go_enter Tryz.func68,Tryz.ntmps68
 go_wp2_with (first
  | (go_at_call 101;(with_reducible refine mo3 w (jbd HG.out (HX.out.below bi) (HE.out.below bi) HS.out) (by go_size) fun w1 hb1 hc1 hf1 z1_0 z1_1 z1_2 _=> ?_)))
 exact bodyPost_ret (v:= .tuple #[sp [] [], .int .i64 4]) (by simp [results,Tryz.results68,go_sem,hc1,hf1,z1_2]) rfl ⟨rfl,bi⟩
theorem jh6 (hE:Env w) (hx:RepF w sx Ax nx cx tx Bx mx dx x) (hy:RepF w sy Ay ny cy ty By my dy y) (hS:StrQ x) (hS':StrQ y) (hg:jdY x=false) (hg':jdY y=true):
  Calls Tryz.prog 68 #[fv sx Ax nx cx tx Bx mx dx,fv sy Ay ny cy ty By my dy] w fun e w'=>e= .returned (.tuple #[sp [] [], .int .i64 4])∧Below w.heap.size w w':=by
 have HE:=qh hE;have HX:=qh hx;have HY:=qh hy;have HS:=qh hS;have HS':=qh hS';have HG:=qh hg;have HG':=qh hg';clear hE hx hy hS hS' hg hg';go_enter Tryz.func68,Tryz.ntmps68
 go_wp2_with (first
  | (go_at_call 101;(with_reducible show Calls _ _ #[.agg #[.int .i64 sx, .slice Ax nx cx, .int .i64 tx, .slice Bx mx dx]] _ _);(with_reducible refine mo3 w (jbd HG.out (HX.out.below bi) (HE.out.below bi) HS.out) (by go_size) fun w1 hb1 hc1 hf1 z1_0 z1_1 z1_2 _=> ?_))
  | (go_at_call 101;(with_reducible show Calls _ _ #[.agg #[.int .i64 sy, .slice Ay ny cy, .int .i64 ty, .slice By my dy]] _ _);(with_reducible refine mo3 w (jbd HG'.out (HY.out.below bi) (HE.out.below bi) HS'.out) (by go_size) fun w2 hb2 hc2 hf2 z2_0 z2_1 z2_2 _=> ?_)))
 exact bodyPost_ret (v:= .tuple #[sp [] [], .int .i64 4]) (by simp [results,Tryz.results68,go_sem,hc1,hc2,hf1,hf2,z1_2,z2_2]) rfl ⟨rfl,bi⟩
def jqS (x y:Rat):List UInt8:=if jdY x || jdY y then [] else tq x
def jpL (x y:Rat):List UInt8:=if jdY x || jdY y then [] else tq y
def jqM (x y:Rat):Int:=if jdY x || jdY y then 4 else 0
theorem jmB (hE:Env w) (hx:RepF w sx Ax nx cx tx Bx mx dx x) (hy:RepF w sy Ay ny cy ty By my dy y) (hS:StrQ x) (hS':StrQ y):
  Calls Tryz.prog 68 #[fv sx Ax nx cx tx Bx mx dx,fv sy Ay ny cy ty By my dy] w fun e w'=>e= .returned (.tuple #[sp (jqS x y) (jpL x y), .int .i64 (jqM x y)])∧Below w.heap.size w w':=by
 unfold jqS jpL jqM;cases h1:jdY x with
 | true=>simpa using jgN hE hx hy hS hS' h1
 | false=>
   cases h2:jdY y with
   | true=>simpa using jh6 hE hx hy hS hS' h1 h2
   | false=>simpa using jng hE hx hy hS hS' h1 h2 rfl rfl
theorem jfQ {l h:List UInt8} {k:Int} (hl:jqS x y=l) (hh:jpL x y=h) (hk:jqM x y=k) (hE:Env w) (hx:RepF w sx Ax nx cx tx Bx mx dx x) (hy:RepF w sy Ay ny cy ty By my dy y) (hS:StrQ x) (hS':StrQ y):
  Calls Tryz.prog 68 #[fv sx Ax nx cx tx Bx mx dx,fv sy Ay ny cy ty By my dy] w fun e w'=>e= .returned (.tuple #[sp l h, .int .i64 k])∧Below w.heap.size w w':=hl ▸ hh ▸ hk ▸ jmB hE hx hy hS hS'
end
end Go.Proofs.YteokfcjdfjhhhaaGreatDoor
