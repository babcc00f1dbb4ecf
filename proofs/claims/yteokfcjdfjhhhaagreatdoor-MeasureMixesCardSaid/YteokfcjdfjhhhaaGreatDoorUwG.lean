/- Parts. -/
import Derived.Test.YteokfcjdfjhhhaaGreatDoorShelh
import Derived.Test.YteokfcjdfjhhhaaGreatDoorKnG
import Derived.Lib.AppendStr
import Derived.Lib.Builder
set_option linter.all false
set_option maxRecDepth 100000
set_option maxHeartbeats 8000000
namespace Go.Proofs.YteokfcjdfjhhhaaGreatDoor
open Go Go.RowKit

def js2 (w:World) (e:Ending):Prop:=∀A n c u,e= .returned (.tuple #[.slice A n c,u])→∀b o,A=some ⟨b,o,none⟩→w.heap.size≤b
theorem jhL (A A':Option Addr) (n c c':Nat) (ds es:List Nat) (w:World) (h:Wd w A n ds) (h':Wd w A' 1 es) (t:Pos.Trim ds) (t':Pos.Trim es) (hn:n < 549755813888) (hl:Pos.nv B64 es≤Pos.nv B64 ds):
  Calls Tryz.prog 163 #[.slice A n c, .slice A' 1 c'] w (fun e w'=>jcp (Pos.nv B64 ds) (Pos.nv B64 es) w e w'∧js2 w e):=by
 obtain rfl:=h.len;obtain ⟨y,rfl⟩:∃y,es=[y]:=List.length_eq_one_iff.1 h'.len;have hy:0 < y:=by have:=t'.last (by simp);simp at this;omega
 have hyB:y < B64:=h'.dig y (by simp);have hes:Pos.nv B64 [y]=y:=Pos.nv_one y;obtain ⟨z,hz0,hz1⟩:=jdO (c:=c) (c':=c') h h' t t' hl;have H1:=qh hz1;rw [hes];have HD:=qh h;have HE:=qh h';have HT:=qh t;have HY:=qh hyB;have hmk:=fun W=>jbJ ds.length (by omega) W
 clear h h' t t' hl hes hyB hz1;go_enter Tryz.func163,Tryz.ntmps163;go_wp2_with (go_at_call 128;((with_reducible refine mz (H1.out) fun w1 hb1 _=> ?_));have HB:=qh hb1;clear hb1)
 go_loopw [7,8] (fun r i wr=>∃(k r':Nat) (zs:List Nat),k≤ds.length∧i= .int .i64 ((k:Int) - 1)∧r= .int .u64 (r':Int)∧MulInv w1 wr w1.heap.size ds.length zs∧OneInv ds zs k y r') (fun _ i _=>(intOf i+1).toNat)
 case atStart=>
  refine ⟨ds.length,0,_,Nat.le_refl _,rfl,rfl, ?_,OneInv.start ds hy⟩;exact { len:=by simp,dig:=fun d hd=>by rw [List.mem_replicate] at hd;rw [hd.2];exact ja9,blk:=by rw [jco];exact Blk.new _ _ _,bel:=(Below.refl _ _).alloc (Nat.le_refl _) _,own:=Nat.le_refl _ }
 case round=>
  obtain ⟨k,r,zs,hk,rfl,rfl,hI,hO⟩:=hrel;cases k with
  | zero=>
    have wz:Wd wr (some ⟨w1.heap.size,0,none⟩) ds.length zs:=Wd.of_blk hI.blk rfl hI.len (by omega) hI.dig;have wb:=hI.bel;obtain ⟨v1,v2⟩:=hO.stop;have hrB:r < B64:=Nat.lt_trans hO.rest HY.out;have WZ:=qh wz;have WB:=qh wb;have V1:=qh v1;have V2:=qh v2;have RB:=qh hrB;clear hI hO wz wb v1 v2 hrB;go_wp2_with fail
    refine (jbs _ _ _ _ _ WZ.out (Nat.le_refl _) (by omega)).mono ?_
    rintro e w2 ⟨j,hj,ht,hv,rfl,rfl⟩
    have HT1:=qh ht;have HV1:=qh hv;have HJ:=qh hj;clear ht hv hj;go_wp2_with fail
    have wr1:Wd (wr.alloc (.cells #[Value.int .u64 (r:Int)] 165)) (some ⟨wr.heap.size,0,none⟩) 1 [r]:=
     Wd.of_blk (Blk.new _ _ _) rfl rfl (by omega) (fun d hd=>by rw [List.mem_singleton] at hd;rw [hd];exact RB.out)
    refine (jbs _ _ _ _ _ wr1 (Nat.le_refl _) (by omega)).mono ?_
    rintro e w3 ⟨j2,hj2,ht2,hv2,rfl,rfl⟩
    have HT2:=qh ht2;have HV2:=qh hv2;have WR:=qh wr1;clear ht2 hv2 wr1;go_wp2;go_ret2;have hbb:Below w.heap.size w (wr.alloc (.cells #[Value.int .u64 (r:Int)] 165)):=ja4 (ja1 HB.out WB.out) _;have hba:Below wr.heap.size wr (wr.alloc (.cells #[Value.int .u64 (r:Int)] 165)):=(Below.refl _ _).alloc (Nat.le_refl _) _;exact ⟨jf6 rfl ⟨HJ.out,by omega,(WZ.out.below hba).take HJ.out,HT1.out,HV1.out.trans V1.out⟩ ⟨hj2,by omega,WR.out.take hj2,HT2.out,HV2.out.trans (by rw [Pos.nv_one];exact V2.out)⟩ hbb,fun A n c u he b o hA=>by cases he;cases hA;exact HB.out.size⟩
  | succ k=>
    obtain ⟨b,o,rfl,hb,hcell⟩:=(HD.out.below HB.out).at_ (by omega);have hcl:=(hI.bel.cell (p:=⟨b,o+k,none⟩) hb).trans (hcell k (by omega));obtain ⟨b',o',rfl,hb',hcell'⟩:=(HE.out.below HB.out).at_ (by omega);have hcl':=(hI.bel.cell (p:=⟨b',o'+0,none⟩) hb').trans (hcell' 0 (by omega));simp only [Nat.add_zero] at hcl';rw [show dg [y] 0=y from rfl] at hcl';obtain ⟨pl1,pl2⟩:=hI.place (j:=k) (by omega);have hu:=jac HD.out.dig k;have hdg:=hO.digit HD.out.dig;have hS:=hO.step (by omega);obtain ⟨q,hq⟩:∃q,q=(r*B64+dg ds k) / y:=⟨_,rfl⟩;obtain ⟨r2,hr2⟩:∃q,q=(r*B64+dg ds k) % y:=⟨_,rfl⟩;rw [←hq,←hr2] at hS;rw [←hq] at hdg
    have D:∀W,Calls Tryz.prog 201 #[.int .u64 (r:Int), .int .u64 (dg ds k:Int), .int .u64 (y:Int)] W fun e w'=>e= .returned (.tuple #[.int .u64 (q:Int), .int .u64 (r2:Int)])∧∃m,w'=W.drewN m:=
     fun W=>(jdq r (dg ds k) y hO.rest hu HY.out W).mono fun e w' ⟨he,hm⟩=>⟨by rw [he,hq,hr2],hm⟩
    have HDV:=qh D;have HS:=qh hS;have HI:=qh hI;have HG:=qh hdg;have i1:(k:Int) < (ds.length:Int):=by omega
    have HK:=qh hk;clear hcell hcell' hu hdg hS hq hr2 D hI hO hk;go_wp2
    go_region_held3 (fun w'=>w'.cell? ⟨b,o+k,none⟩=some (.int .u64 ((dg ds k:Nat):Int))∧w'.cell? ⟨b',o',none⟩=some (.int .u64 (y:Int)))
     (refine ⟨?_, ?_⟩ <;> first|(go_keep;done)|(go_split_ands;(repeat rw [World.cell?_setCell_far _ _ _ _ (by dsimp only;omega)]);assumption))
     ((go_at_call 201;refine (HDV.out _).mono ?_;rintro e w2 ⟨rfl,md,rfl⟩))
    go_wp2;exact ⟨⟨k,r2,_,by have:=HK.out;omega,rfl,rfl,(HI.out.drewN (1+md)).put k q HG.out,HS.out⟩,by simp [intOf]⟩
theorem jgc (A A':Option Addr) (n n' c c':Nat) (ds es:List Nat) (w:World) (h:Wd w A n ds) (h':Wd w A' n' es) (t:Pos.Trim ds) (t':Pos.Trim es) (hn:n≤c) (hc:c < 1099511627776) (hl:Pos.nv B64 ds < Pos.nv B64 es):
  Calls Tryz.prog 163 #[.slice A n c, .slice A' n' c'] w (fun e w'=>jcp (Pos.nv B64 ds) (Pos.nv B64 es) w e w'∧js2 w e):=by
 have H1:=qh (jfJ (c:=c) (c':=c') h h' t t' hl);have HD:=qh h;have HT:=qh t;have HL:=qh hl;clear h h' t t' hl;go_enter Tryz.func163,Tryz.ntmps163;go_wp2_with (go_at_call 128;((with_reducible refine mz (H1.out) fun w1 hb1 _=> ?_));have HB:=qh hb1;clear hb1)
 go_ret2;exact ⟨jf6 (A:=none) (n:=0) (c:=0) (B:=A) (m:=n) (d:=c) (qs:=[]) (rs:=ds) rfl ⟨Nat.le_refl _,by omega,Wd.nil _ _,Pos.Trim.nil,by rw [Nat.div_eq_of_lt HL.out];rfl⟩ ⟨hn,hc,HD.out.below HB.out,HT.out,by rw [Nat.mod_eq_of_lt HL.out]⟩ HB.out,fun A n c u he b o hA=>by cases he;cases hA⟩
theorem jiI {w:World} {A A':Option Addr} {n c c' x y:Nat} (h:NumW w A n c x) (h':NumW w A' 1 c' y) (hx:Few x):Calls Tryz.prog 163 #[.slice A n c, .slice A' 1 c'] w fun e w'=>∃Q k kc R j jc,e= .returned (.tuple #[.slice Q k kc, .slice R j jc])∧NumW w' Q k kc (x / y)∧NumW w' R j jc (x % y)∧(∀b o,Q=some ⟨b,o,none⟩→w.heap.size≤b)∧Below w.heap.size w w':=by
 obtain ⟨ds,h1,h2,h3,h4,h5⟩:=h.ex;obtain ⟨es,g1,g2,g3,g4,g5⟩:=h'.ex;have l1:=jdc h1 h2 h5 hx;subst h5 g5
 have key:Calls Tryz.prog 163 #[.slice A n c, .slice A' 1 c'] w (fun e w'=>jcp (Pos.nv B64 ds) (Pos.nv B64 es) w e w'∧js2 w e):=by
  rcases Nat.lt_or_ge (Pos.nv B64 ds) (Pos.nv B64 es) with hl|hl
  ·exact jgc A A' n 1 c c' ds es w h1 g1 h2 g2 h3 h4 hl
  ·exact jhL A A' n c c' ds es w h1 g1 h2 g2 (by omega) hl
 refine key.mono fun e w' ⟨h,hq⟩=> ?_
 obtain ⟨A,n,c,qs,B,m,d,rs,he,⟨a1,a2,a3,a4,a5⟩,⟨b1,b2,b3,b4,b5⟩,hb⟩:=h;exact ⟨A,n,c,B,m,d,he,⟨qs,a3,a4,a1,a2,a5⟩,⟨rs,b3,b4,b1,b2,b5⟩,hq A n c _ he,hb⟩
open Go.Sort (putRow)

theorem jjT {w:World} {T:TypeId} {d:Array UInt8} {n:Nat}:Below w.heap.size w ((Sort.putRow (fun (b:UInt8)=>Value.int .u8 (b.toNat:Int)) (w.alloc (.cells Lib.zeros24 T)) w.heap.size 0 d).drewN n):=
 jaC (jgP (ja4 (Below.refl _ _) _) (Nat.le_refl _)) n
theorem jg6 {w:World} {u:Nat} (hE:Env w) (hu:u < 18446744073709551616):Calls Tryz.prog 218 #[.int .u64 (u:Int), .int .i64 10] w fun e w'=>e= .returned (bs (Lib.decDigits u))∧Below w.heap.size w w':=by
 by_cases hs:u < 100
 ·have q1:decide ((u:Int) < 100)=true:=by rw [decide_eq_true_iff];omega
  have q2:decide (u < 100)=true:=by rw [decide_eq_true_iff];omega
  have w1:IntKind.i64.wrap (u:Int)=(u:Int):=by rw [IntKind.wrap_i64];omega
  have HS:=qh (fun W=>Tryz.internal_strconv_small u hs W);clear hs hE hu;go_enter Tryz.func218,Tryz.ntmps218;go_wp2_with (go_at_call 234;(with_reducible refine (HS.out _).mono ?_);rintro e1 w1 ⟨rfl,rfl⟩)
  go_ret;exact ⟨rfl,bi⟩
 ·have hu1:1≤u:=by omega
  have q1:decide ((u:Int) < 100)=false:=by rw [decide_eq_false_iff_not];omega
  have q2:decide (u < 100)=false:=by rw [decide_eq_false_iff_not];omega
  have hnd20:Lib.nDigits u≤20:=by have:=Lib.numDigits_eq u hu1 hu;split at this <;> omega
  have hal:Tryz.prog.arrayLen 255=24:=by simp [Program.arrayLen,Tryz.underlying255]
  have hsl:∀W,(Instr.sliceAt 255 (.pointer (some ⟨w.heap.size,0,none⟩)) none (some (.int .i64 (Lib.nDigits u:Int))) none).run Tryz.prog W= .ok (.slice (some ⟨w.heap.size,0,none⟩) (Lib.nDigits u) 24) W:=fun W=>by
   rw [run_sliceAt_array_h W 255 ⟨w.heap.size,0,none⟩ (by simp [Program.arrayLen,Program.elem,Tryz.underlying255]) .i64 (Lib.nDigits u:Int) (by omega) (by rw [hal];omega)];go_simp
  have hH0:=Lib.holds_zero0 w 255 (Lib.nDigits u) (by omega);have hfmt:=Tryz.internal_strconv_formatBase10 w.heap.size 0 24 u (Array.replicate (Lib.nDigits u) 0) (w.alloc (.cells Lib.zeros24 255)) hH0 (by rw [Array.size_replicate];exact Lib.lt_pow_nDigits u) hu (by rw [Array.size_replicate];omega);rw [Array.size_replicate] at hfmt;have HH0:=qh hH0;have HF:=qh hfmt;have HN:=qh (fun W (hb:Below w.heap.size w W)=>Tryz.internal_strconv_numDigits u hu1 hu W (hE.below hb).tab.here);clear hH0 hal hfmt hs hE hu hu1 hnd20;go_enter Tryz.func218,Tryz.ntmps218;go_wp2_with first|(go_at_call 235;(with_reducible refine (HN.out _ bi).mono ?_);rintro e1 w1 ⟨rfl,rfl⟩)
  go_at_call 236
  refine HF.out.mono ?_
  rintro e2 w2 ⟨rfl,k,v',dk,rfl,hF⟩
  have hcv:(convert 215 9 (.slice (some ⟨w.heap.size,0,none⟩) (Lib.nDigits u) 24)).run Tryz.prog ((putRow (fun (b:UInt8)=>Value.int .u8 (b.toNat:Int)) (w.alloc (.cells Lib.zeros24 255)) w.heap.size 0 dk).drewN k)= .ok (bs (Lib.decDigits u)) ((putRow (fun (b:UInt8)=>Value.int .u8 (b.toNat:Int)) (w.alloc (.cells Lib.zeros24 255)) w.heap.size 0 dk).drewN k):=by
   have h:=run_convert_bytes_back (P:=Tryz.prog) ((putRow (fun (b:UInt8)=>Value.int .u8 (b.toNat:Int)) (w.alloc (.cells Lib.zeros24 255)) w.heap.size 0 dk).drewN k) 215 9 5 ⟨w.heap.size,0,none⟩ 24 (Lib.decDigits u) Tryz.underlying215 Tryz.underlying5 Tryz.underlying9 (fun j hj=>by
    rw [Lib.row_is_numeral hF j hj,Lib.add_plain,World.cell?_drewN]
    exact Sort.cell?_putRow (fun (b:UInt8)=>Value.int .u8 (b.toNat:Int)) _ w.heap.size 0 _ dk HH0.out (by rw [hF.size,Array.size_replicate]) j (by rw [hF.size];rw [Lib.decDigits_length] at hj;exact hj))
   rw [Lib.decDigits_length] at h;exact h
  clear hF;have hb2:=jjT (w:=w) (T:=255) (d:=dk) (n:=k);go_wp2;go_ret;exact ⟨rfl,hb2⟩
theorem jfi {w:World} {u:Nat} (hE:Env w) (hu:u < 18446744073709551616):Calls Tryz.prog 189 #[.int .u64 (u:Int), .int .i64 10] w fun e w'=>e= .returned (bs (Lib.decDigits u))∧Below w.heap.size w w':=by
 have HF:=qh (jg6 hE hu);clear hE hu;go_enter Tryz.func189,Tryz.ntmps189;go_wp2_with (go_at_call 218;(with_reducible refine mo0 (HF.out) fun w1 hb1 hc1 hf1 _=> ?_))
 go_ret;exact ⟨rfl,bi⟩
section
variable {w:World} {b:Nat}
theorem jlW (h0:w.cell? ⟨b,0,none⟩=some (.pointer (some ⟨b,0,none⟩))):
  Calls Tryz.prog 222 #[.pointer (some ⟨b,0,none⟩)] w fun e w'=>e= .returned (.tuple #[])∧w'=w:=by
 obtain ⟨j,hj,_⟩:=Option.map_eq_some_iff.1 Tryz.Builder_Extra_169.sizeBuilder;go_enter Tryz.func222,Tryz.ntmps222;go_wp2;rw [Lib.run_neq_ptr_same w _ Tryz.underlying214 hj];go_wp2
 go_end0
 exact ⟨rfl,rfl⟩
theorem jkD (h0:w.cell? ⟨b,0,none⟩=some (.pointer none)) (hsh:w.shape? b=some (217,2)) (hfz:w.frozen? ⟨b,0,none⟩=false):
  Calls Tryz.prog 222 #[.pointer (some ⟨b,0,none⟩)] w fun e w'=>e= .returned (.tuple #[])∧w'=w.setCell ⟨b,0,none⟩ (.pointer (some ⟨b,0,none⟩)):=by
 obtain ⟨j,hj,hjs⟩:=Option.map_eq_some_iff.1 Tryz.Builder_Extra_169.sizeBuilder;go_enter Tryz.func222,Tryz.ntmps222;go_wp2;rw [Lib.run_to_unsafe w ⟨b,0,none⟩ Tryz.underlying214 Tryz.underlying260 hj (by rw [hjs];decide) hsh (Nat.zero_lt_succ 1)];simp only [Result.andThen];rw [Oper.upon_value];go_wp2;rw [run_callFunc_extern Tryz.func240 (by kernel_rfl) (by kernel_rfl) (by kernel_rfl) (e:=Extern.AbiNoEscape.same) (by kernel_rfl)];rw [Lib.run_noEscape];simp only [Result.andThen];rw [Oper.upon_value];go_wp2;rw [Lib.run_from_unsafe w ⟨b,0,none⟩ Tryz.underlying260 Tryz.underlying214 hj hsh Tryz.Builder_Extra_169.liesBuilder];simp only [Result.andThen];rw [Oper.upon_value];go_wp2
 go_end0
 exact ⟨rfl,rfl⟩
theorem jnM {B:Nat} {ls:List Value} (h:Lib.IsBuilder 217 5 B b ls w):
  Calls Tryz.prog 222 #[.pointer (some ⟨b,0,none⟩)] w fun e w'=>e= .returned (.tuple #[])∧(Lib.BuilderAt 217 5 B b (.pointer (some ⟨b,0,none⟩)) ls w'∧Below B w w'):=by
 rcases h with h|h
 ·refine (jkD h.cell0 h.shape h.frozen0).mono ?_
  rintro e w' ⟨rfl,rfl⟩
  exact ⟨rfl,h.used _,(Below.refl B w).setCell (p:=⟨b,0,none⟩) h.1 _⟩
 ·refine (jlW h.cell0).mono ?_
  rintro e w' ⟨rfl,rfl⟩
  exact ⟨rfl,h,Below.refl B _⟩
theorem jek {B:Nat} {ls:List Value} (s:ByteArray) (h:Lib.IsBuilder 217 5 B b ls w) (hlen:ls.length+s.size≤140737488355328) (hBw:B≤w.heap.size):
  Calls Tryz.prog 191 #[.pointer (some ⟨b,0,none⟩), .string s] w fun e w'=>e= .returned (.tuple #[.int .i64 s.size, .nilIface])∧(Lib.BuilderAt 217 5 B b (.pointer (some ⟨b,0,none⟩)) (ls++Lib.strCells s) w'∧Below B w w'):=by
 obtain ⟨i0,hi,hz0,hz1,hz2⟩:=info_parts Tryz.Builder_Extra_169.infoByte;go_enter Tryz.func191,Tryz.ntmps191;go_wp2_with (go_at_call 222;refine (jnM h).mono ?_)
 rintro e w1 ⟨rfl,h1,hb1⟩;(try have _:=bm hb1)
 obtain ⟨hB,v,hbk,hown,hne⟩:=h1;have c0:w1.cell? ⟨b,0,none⟩=some (.pointer (some ⟨b,0,none⟩)):=by rw [Lib.cell_of_heap hbk];rfl
 have c1:w1.cell? ⟨b,1,none⟩=some v:=by rw [Lib.cell_of_heap hbk];rfl
 go_wp2_with (at_builtin;refine Lib.wpList_append_own_string _ rfl _ _ 215 9 rfl B 5 i0 Tryz.underlying215 Tryz.underlying9 hi hz0 hz1 hz2 _ _ _ rfl hown s rfl ?c3 ?c4 ?c5 ?_)
 case c3=>unfold maxLen;omega
 case c4=>omega
 case c5=>have:=hb1.size;omega
 intro v' w2 hown' hgrow _
 have hlt:b < w1.heap.size:=by
  rcases Nat.lt_or_ge b w1.heap.size with h'|h'
  ·exact h'
  ·simp [Array.getElem?_eq_none h'] at hbk
 have hb2:w2.heap[b]? =some (.cells #[.pointer (some ⟨b,0,none⟩),v] 217 (0,0)):=by
  rw [hgrow.block b hlt (fun e=>hne e.symm)];exact hbk
 have d0:w2.cell? ⟨b,0,none⟩=some (.pointer (some ⟨b,0,none⟩)):=by rw [Lib.cell_of_heap hb2];rfl
 have d1:w2.cell? ⟨b,1,none⟩=some v:=by rw [Lib.cell_of_heap hb2];rfl
 have f1:w2.frozen? ⟨b,1,none⟩=false:=Lib.frozen_of_heap hb2 1
 obtain ⟨ao,n',cap,rfl⟩:∃ao n' cap,v'= .slice ao n' cap:=by
  rcases hown'.2 with ⟨hv,_⟩|⟨g,cap,cur,hv,_⟩
  ·exact ⟨_,_,_,hv⟩
  ·exact ⟨_,_,_,hv⟩
 go_wp2;go_ret2;refine ⟨rfl, ?_, ?_⟩
 ·exact Lib.BuilderAt.put (T:=217) (e:=5) hB hb2 (bs':=ls++Lib.strCells s) (by simpa [Lib.strCells_length] using hown') (by decide)
 ·exact (hb1.grown hgrow (by have:=hb1.size;omega) (fun k hk=>(hown.lt k hk).1)).setCell (p:=⟨b,1,none⟩) hB _
end

abbrev ji4 (w:World) (base:Nat) (v:Value) (n:Nat) (ts:List (List UInt8)):Prop:=w.ownsRow base 9 1 v n (ts.map bs)
theorem jnx:(Tryz.prog.info? 9).map (fun i=>(i.zero,i.size,i.bytes))=some (some (.string ByteArray.empty),1,16):=by kernel_rfl
theorem ji4.at_ {w:World} {base n:Nat} {v:Value} {ts:List (List UInt8)} (h:ji4 w base v n ts) (hl:ts.length=n) (h0:0 < n):∃g c,v= .slice (some ⟨g,0,none⟩) n c∧g < w.heap.size∧∀j,j < n→w.cell? ⟨g,j,none⟩=some (bs (ts.getD j [])):=by
 rcases h.2 with ⟨rfl,h1⟩|⟨g,cap,cur,rfl,hb,hg,hnc,hcm,hcs,ht⟩
 ·omega
 ·refine ⟨g,cap,rfl,(Array.getElem?_eq_some_iff.1 hg).1,fun j hj=> ?_⟩;have hc:=World.ownsRow.cells h (g:=g) rfl;have hjl:j < ts.length:=by omega
  have:=hc j (bs (ts.getD j [])) (by rw [List.getElem?_map,List.getElem?_eq_getElem hjl,List.getD_eq_getElem?_getD,List.getElem?_eq_getElem hjl];rfl);rw [jd5] at this;exact this
theorem ji4.ge {w:World} {base n:Nat} {v:Value} {ts:List (List UInt8)} (h:ji4 w base v n ts):∀k,v.ownBlock=some k→base≤k:=by
 intro k hk;rcases h.2 with ⟨rfl,h1⟩|⟨g,cap,cur,rfl,hb,hg,hnc,hcm,hcs,ht⟩
 ·simp [Value.ownBlock] at hk
 ·simp [Value.ownBlock] at hk;omega
theorem ji4.lt {w:World} {base n:Nat} {v:Value} {ts:List (List UInt8)} (h:ji4 w base v n ts):∀k,v.ownBlock=some k→k < w.heap.size:=by
 intro k hk;rcases h.2 with ⟨rfl,h1⟩|⟨g,cap,cur,rfl,hb,hg,hnc,hcm,hcs,ht⟩
 ·simp [Value.ownBlock] at hk
 ·simp [Value.ownBlock] at hk;subst hk;exact (Array.getElem?_eq_some_iff.1 hg).1
theorem NumW.blk {w:World} {n c x b o:Nat} (h:NumW w (some ⟨b,o,none⟩) n c x) (h0:0 < n):b < w.heap.size:=by
 obtain ⟨ds,h1,_⟩:=h.ex;obtain ⟨b',o',e,hb,_⟩:=h1.at_ h0;cases e
 exact hb
theorem ji4.below {w w':World} {base n:Nat} {v:Value} {ts:List (List UInt8)} (h:ji4 w base v n ts) (hb:Below w.heap.size w w'):ji4 w' base v n ts:=
 World.ownsRow.kept h (jdi hb none) (by cases hv:v.ownBlock <;> simp)
theorem jnO {w:World} {base n b c:Nat} {v:Value} {ts:List (List UInt8)} {x:List UInt8} (h:ji4 w base v n ts) (hn:n≤100000) (hb:base≤w.heap.size) (h0:w.cell? ⟨b,0,none⟩=some (bs x)):
  ∃v' w',(Builtin.append_ #[84,84] 84 #[v, .slice (some ⟨b,0,none⟩) 1 c]).run Tryz.prog w= .ok v' w'∧ji4 w' base v' (n+1) (ts++[x])∧w.grownBy w' v.ownBlock∧(v'.ownBlock=v.ownBlock∨v'.ownBlock=some w.heap.size):=by
 obtain ⟨i,hi,hz0,hz1,hz2⟩:=info_parts jnx
 obtain ⟨v',w',hr,k1,k2,_,k3⟩:=run_append_own_at (P:=Tryz.prog) w base 84 84 9 i _ 1 16 Tryz.underlying84 hi hz0 hz1 hz2 rfl (by decide) v n (ts.map bs) h ⟨b,0,none⟩ 1 c [bs x] (by simp)
  (by
    intro j u hu;rw [jd5]
    match j,hu with
    | 0,hu=>simp at hu;subst hu;exact h0
    | j+1,hu=>simp at hu)
  (by intro u hu;simp at hu;subst hu;rfl)
  (by simp only [maxLen];omega) (by omega) hb
 exact ⟨v',w',hr,by rw [ji4,List.map_append];exact k1,k2,k3⟩
theorem jaR {ops:Array Oper} {rest:List Oper} {o:Oper} {a:Act} {Q:Exit→Act→World→Prop} {w:World} {base n b c:Nat} {v:Value} {ts:List (List UInt8)} {x:List UInt8} (hg:o.guard=none) (s y:Operand)
  (ho:o.op= .call { callee:= .builtin .append,args:= #[s,y],argTypes:= #[84,84] }) (ht:o.type=84) (hs:a.eval s=v) (hy:a.eval y= .slice (some ⟨b,0,none⟩) 1 c)
  (h:ji4 w base v n ts) (hl:ts.length=n) (hn:n≤100000) (hb:base≤w.heap.size) (h0:w.cell? ⟨b,0,none⟩=some (bs x))
  (hK:∀g c' w',ji4 w' base (.slice (some ⟨g,0,none⟩) (n+1) c') (n+1) (ts++[x])→w.grownBy w' v.ownBlock→(v.ownBlock=some g∨g=w.heap.size)→wpList Tryz.prog ops Q rest (a.put o.dst (.slice (some ⟨g,0,none⟩) (n+1) c')) w'):wpList Tryz.prog ops Q (o::rest) a w:=by
 obtain ⟨v',w',hr,k1,k2,k3⟩:=jnO h hn hb h0;obtain ⟨g,c',rfl,_,_⟩:=ji4.at_ k1 (by simp [hl]) (by omega);refine wpList_plain hg fun K' hK'=> ?_
 exact jdZ s y ho hs hy (by rw [ht];exact hr) (hK' _ _ (hK g c' w' k1 k2 (by rcases k3 with k3|k3;(exact .inl k3.symm);(exact .inr (Option.some.inj k3)))))
def dcx (x:Nat):List UInt8:=if x=0 then [] else Lib.decDigits x
theorem jgF {x:Nat} (h:0 < x):dcx x=Lib.decDigits x:=by unfold dcx;rw [if_neg (by omega)]
theorem jq3 {r:Nat} (h:r < 10^18):(Lib.decDigits r).length≤18:=jbf (k:=18) h (by omega)
theorem jlJ (c:Nat):Lib.repeatL [48] c=List.replicate c (48:UInt8):=by
 induction c with
 | zero=>rfl
 | succ c ih=>rw [Lib.repeatL,ih];rfl
theorem jgs:∀(k:Nat),dD 0 k=List.replicate k 48
 | 0=>by rw [jd7];rfl
 | k+1=>by
   rw [jbR (by omega)];simp only [Nat.zero_div,Nat.add_sub_cancel,Nat.zero_mod,Nat.add_zero];rw [jgs k,List.replicate_succ'];rfl
theorem jlb:∀(k r:Nat),0 < r→r < 10^k→List.replicate (k - (Lib.decDigits r).length) 48++Lib.decDigits r=dD r k
 | 0,r,h0,h=>by simp at h;omega
 | k+1,r,h0,h=>by
   have e1:Lib.decDigits r=dD r 1:=(jeS r).symm;rw [jbR (n:=r) (k:=k+1) (by omega),Nat.add_sub_cancel];rcases Nat.eq_zero_or_pos (r / 10) with h1|h1
   ·have h2:Lib.decDigits r=[UInt8.ofNat (48+r % 10)]:=by
     rw [e1,jbR (by omega),h1];rw [show (1:Nat) - 1=0 from rfl,jd7];rfl
    rw [h1,jgs,h2];simp
   ·have h2:Lib.decDigits r=Lib.decDigits (r / 10)++[UInt8.ofNat (48+r % 10)]:=by
     rw [e1,jbR (by omega),show (1:Nat) - 1=0 from rfl,jeo h1,jeS]
    rw [h2,←jlb k (r / 10) h1 (jbk h),List.length_append,List.length_singleton,←List.append_assoc]
    congr 3
    omega
theorem jqm {r:Nat} (h:r < 10^18):List.replicate (18 - (Lib.decDigits r).length) 48++Lib.decDigits r=dD r 18:=by
 rcases Nat.eq_zero_or_pos r with e|e
 ·subst e;rw [jgs];have:Lib.decDigits 0=[48]:=by decide+kernel
  rw [this];rfl
 ·exact jlb 18 r e h
theorem joZ {x:Nat} {ts:List (List UInt8)} {D:List UInt8} (h:0 < x / 10^18) (hD:dcx x++ts.reverse.flatten=D):dcx (x / 10^18)++(ts++[dD (x % 10^18) 18]).reverse.flatten=D:=by
 have h0:0 < x:=by rcases Nat.eq_zero_or_pos x with e|e;(subst e;simp at h);exact e
 have h1:=jlE 18 (x / 10^18) (x % 10^18) h (Nat.mod_lt _ (by decide));rw [Nat.div_add_mod' x (10^18),jeS,jeS] at h1;rw [←hD,jgF h,jgF h0,h1,List.reverse_append,List.flatten_append];simp
theorem joa {x:Nat} {ts:List (List UInt8)} {D:List UInt8} (h0:0 < x) (h:x / 10^18=0) (hD:dcx x++ts.reverse.flatten=D):dcx (x / 10^18)++(ts++[Lib.decDigits (x % 10^18)]).reverse.flatten=D:=by
 have h1:x % 10^18=x:=Nat.mod_eq_of_lt (by
  rcases Nat.lt_or_ge x (10^18) with e|e
  ·exact e
  ·have:=Nat.div_pos e (by decide);omega)
 rw [←hD,h,h1,jgF h0,List.reverse_append,List.flatten_append];simp [dcx]
theorem jop {K x k:Nat} (h0:0 < x) (h:x < 10^(K - k)):k < K∧x / 10^18 < 10^(K - (k+1)):=by
 have hk:k < K:=by
  rcases Nat.lt_or_ge k K with e|e
  ·exact e
  ·rw [show K - k=0 by omega] at h;simp at h;omega
 refine ⟨hk, ?_⟩;have e:10^(K - k)=10^(K - (k+1))*10:=by rw [←Nat.pow_succ];congr 1;omega
 have h2:x / 10 < 10^(K - (k+1)):=by rw [Nat.div_lt_iff_lt_mul (by omega),←e];exact h
 exact Nat.lt_of_le_of_lt (Nat.div_le_div_left (by decide) (by decide)) h2
def valW (w:World) (v:Value):Nat:=match v with
 | .slice (some a) n _=>Pos.nv B64 ((List.range n).map fun j=>match w.cell? ⟨a.block,a.off+j,none⟩ with|some (.int _ z)=>z.toNat | _=>0)
 | _=>0
theorem NumW.valW {w:World} {A:Option Addr} {n c x:Nat} (h:NumW w A n c x):valW w (.slice A n c)=x:=by
 obtain ⟨ds,hw,_,_,_,rfl⟩:=h.ex;rcases Nat.eq_zero_or_pos n with h0|h0
 ·subst h0;obtain rfl:ds=[]:=List.length_eq_zero_iff.1 hw.len;unfold Go.Proofs.YteokfcjdfjhhhaaGreatDoor.valW;cases A <;> simp [Pos.nv]
 ·obtain ⟨b,o,rfl,_,hc⟩:=hw.at_ h0;unfold Go.Proofs.YteokfcjdfjhhhaaGreatDoor.valW;dsimp only
  congr 1
  apply List.ext_getElem
  ·simp [hw.len]
  ·intro j h1 h2;simp only [List.getElem_map,List.getElem_range];rw [hc j (by simpa using h1),gd (by rw [hw.len];simpa using h1)];simp
theorem NumW.zero {w:World} {A:Option Addr} {n c x:Nat} (h:NumW w A n c x):x=0↔n=0:=by
 obtain ⟨ds,h1,ht,_,_,hv⟩:=h.ex;constructor
 ·intro e;rcases Nat.eq_zero_or_pos n with h0|h0
  ·exact h0
  ·have:=Pos.nv_pos ja9 ht (by rw [h1.len];exact h0);omega
 ·intro e;subst e;rw [List.length_eq_zero_iff.1 h1.len] at hv;simpa [Pos.nv] using hv.symm
theorem NumW.grown {w w':World} {A:Option Addr} {n c x:Nat} {row:Option Nat} (h:NumW w A n c x) (hg:w.grownBy w' row) (hne:0 < n→∀b o,A=some ⟨b,o,none⟩→row≠some b):NumW w' A n c x:=by
 obtain ⟨ds,h1,ht,h3,h4,hv⟩:=h.ex;refine ⟨ds,⟨h1.len,h1.dig,h1.big,fun hn=> ?_⟩,ht,h3,h4,hv⟩;obtain ⟨b,o,e,hb,hc⟩:=h1.at_ hn;refine ⟨b,o,e,Nat.lt_of_lt_of_le hb hg.size,fun j hj=> ?_⟩;rw [World.cell?_of_block (a:=⟨b,o+j,none⟩) (hg.block b hb (fun e2=>hne hn b o e e2.symm))];exact hc j hj
theorem NumW.word {w:World} {A:Option Addr} {n c x:Nat} (h:NumW w A n c x) (hx:x < B64) (h0:0 < x):n=1∧∃b o,A=some ⟨b,o,none⟩∧b < w.heap.size∧w.cell? ⟨b,o,none⟩=some (.int .u64 (x:Int)):=by
 have hz:=h.zero;obtain ⟨ds,h1,ht,_,_,hv⟩:=h.ex
 have hn:n=1:=by
  rcases Nat.lt_or_ge 1 ds.length with e|e
  ·exfalso;have h3:=Pos.nv_lt_of_len (l:=[x]) (m:=ds) ja9 (fun y hy=>by rw [List.mem_singleton] at hy;subst hy;exact hx) ht (by simpa using e);rw [hv,Pos.nv_one] at h3;omega
  ·rw [h1.len] at e;omega
 subst hn;obtain ⟨b,o,rfl,hb,hc⟩:=h1.at_ (by omega);refine ⟨rfl,b,o,rfl,hb, ?_⟩;have hk:=hc 0 (by omega)
 obtain ⟨y,rfl⟩:∃y,ds=[y]:=by
  have hl:=h1.len
  match ds,hl with
  | [y],_=>exact ⟨y,rfl⟩
 rw [Pos.nv_one] at hv;subst hv;exact hk

theorem jnJ (a:Int):zt a=Lib.itoa a:=by
 unfold zt Lib.itoa;by_cases h:a < 0 <;> simp [h]
 congr 1;omega
theorem jrF {x K:Nat} (hK:K≤20000) (h:x < 10^K):Few x:=by
 have h10:10≤B64:=by rw [ja7];omega
 have h1:((x:Int)).natAbs≤B64^K:=by rw [Int.natAbs_natCast];exact Nat.le_trans (Nat.le_of_lt h) (Nat.pow_le_pow_left h10 K)
 have h2:=(jba h1 (by omega)).few;rwa [Int.natAbs_natCast] at h2
theorem jiP {w:World}:Lib.BuilderAt 217 5 w.heap.size w.heap.size (.pointer none) [] (w.alloc (.cells #[.pointer none, .slice none 0 0] 217)):=
 ⟨Nat.le_refl _, .slice none 0 0,heap_alloc_new w _,World.ownsRow_nil _ _ _ _,by simp [Value.ownBlock]⟩
theorem jhY (a b:List UInt8):Lib.byteCells a++Lib.strCells ⟨b.toArray⟩=Lib.byteCells (a++b):=by
 simp [Lib.byteCells,Lib.strCells]
theorem jmq {w:World} {c:Nat} {Z:List UInt8} (hc:c≤18) (hZ:List.replicate c (48:UInt8)=Z):Calls Tryz.prog 190 #[.string ⟨#[48]⟩, .int .i64 (c:Int)] w fun e w'=>e= .returned (bs Z)∧Below w.heap.size w w':=by
 have:=Tryz.strings_Repeat ⟨#[48]⟩ c w (by omega) (by show 1*c≤_;omega);rwa [show (⟨#[48]⟩:ByteArray).data.toList=[48] from rfl,jlJ,hZ] at this
theorem jm9 {ts:List (List UInt8)} {j:Nat} (h:j < ts.length):(ts.drop j).reverse.flatten=(ts.drop (j+1)).reverse.flatten++ts.getD j []:=by
 rw [List.drop_eq_getElem_cons h,List.reverse_cons,List.flatten_append];simp [List.getD_eq_getElem?_getD,List.getElem?_eq_getElem h]
theorem jp4 (ts:List (List UInt8)) (k:Nat):(ts.drop k).reverse.flatten.length≤ts.reverse.flatten.length:=by
 have:ts.reverse=(ts.drop k).reverse++(ts.take k).reverse:=by rw [←List.reverse_append,List.take_append_drop]
 rw [this,List.flatten_append,List.length_append];omega
section
variable {w:World} {s z:Int} {n c:Nat} {p:Addr}
theorem jmE {K:Nat} (hK:K≤20000) (h:Rep w s (some p) n c z) (hE:Env w) (hz:z.natAbs < 10^K) (h0:0 < z.natAbs):Calls Tryz.prog 149 #[iv s (some p) n c] w fun e w'=>e= .returned (bs (Lib.itoa z))∧Below w.heap.size w w':=by
 obtain ⟨g,hg⟩:∃g,decide (z < 0)=g:=⟨_,rfl⟩
 have hD:Lib.itoa z=(if g then [45] else [])++Lib.decDigits z.natAbs:=by
  rw [←jnJ,←hg];unfold zt;by_cases e:z < 0 <;> simp [e]
 obtain ⟨X,hX⟩:∃X,z.natAbs=X:=⟨_,rfl⟩
 have HP:=qh (fun W (hb:Below w.heap.size w W)=>(jdF (h.below hb)).mono fun e w' h=>(show ∃A n c,e= .returned (.tuple #[.bool g, .slice A n c])∧NumW w' A n c X∧Below W.heap.size W w' from by
  obtain ⟨A,n,c,he,hn,hb⟩:=h;rw [hg] at he;rw [hX] at hn
  exact ⟨A,n,c,he,hn,hb⟩))
 rw [hX] at hD hz h0;rw [hD];have HX:=qh (And.intro hz h0);have HE:=qh (fun W (hb:Below w.heap.size w W)=>hE.below hb);have qe:=jar;clear hg hX hD hz h0 h hE;go_enter Tryz.func149,Tryz.ntmps149;go_upto_region 5 with (go_at_call 125;(with_reducible refine (HP.out _ bi).mono ?_);rintro e1 w1 ⟨A1,n1,c1,rfl,hr1,hb1⟩;obtain ⟨hc1,hf1,_⟩:=bc0 hb1)
 obtain ⟨W,hW⟩:∃W,w1.alloc (.cells #[.int .u64 1000000000000000000] 165)=W:=⟨_,rfl⟩;have bW1:Below w1.heap.size w1 W:=by rw [←hW];exact ja4 (Below.refl _ _) _
 have bW:Below w.heap.size w W:=ja1 (ja1 (ja4 (Below.refl _ _) _) hb1) bW1;have zW:w1.heap.size < W.heap.size:=by rw [←hW];simp
 have HB:=qh (show NumW W (some ⟨w1.heap.size,0,none⟩) 1 1 (10^18) from ⟨[10^18],⟨rfl,fun x hx=>by rw [List.mem_singleton] at hx;subst hx;rw [ja7];decide,by decide,fun _=>⟨w1.heap.size,0,rfl,zW,fun j hj=>by
  obtain rfl:j=0:=by omega
  rw [←hW]
  simp [go_sem,dg]⟩⟩,by simp [Pos.Trim],by omega,by omega,by rw [Pos.nv_one]⟩)
 have HN:=qh (hr1.below bW1);rw [hW];clear hW hc1 hf1 hb1 hr1 bW1 zW qe HP;go_wp2
 go_loopw [4,6] (fun u v wr=>∃(x:Nat) (ts:List (List UInt8)) (A:Option Addr) (n c:Nat),u= .slice A n c∧Hid (NumW wr A n c x)∧ji4 wr W.heap.size v ts.length ts∧Below W.heap.size W wr∧Hid ((dcx x++ts.reverse.flatten=Lib.decDigits X∧ts.length≤K∧x < 10^(K - ts.length))∧(0 < n→∀b o,A=some ⟨b,o,none⟩→v.ownBlock≠some b))) (fun u _ wr=>valW wr u)
 case atStart=>exact ⟨X,[],A1,n1,c1,rfl,HN,World.ownsRow_nil _ _ _ _,Below.refl _ _,qh ⟨⟨by rw [jgF HX.out.2];simp,by simp,by simpa using HX.out.1⟩,fun _ _ _ _=>by simp [Value.ownBlock]⟩⟩
 case round=>
  obtain ⟨x,ts,A,n,c,rfl,HNX,how,hb,HR⟩:=hrel
  (try have _:=bm hb)
  have HOW:=qh how;have htl:ts.length≤K:=HR.out.1.2.1;clear how;rcases Nat.eq_zero_or_pos n with en|hn
  ·subst en;obtain ⟨U,rfl⟩:∃U,U=wr:=⟨_,rfl⟩;have hts:=HR.out.1.1;rw [HNX.out.zero.2 rfl] at hts;have hT:ts.reverse.flatten=Lib.decDigits X:=by simpa [dcx] using hts
   have hL:(Lib.decDigits X).length≤K:=jbf HX.out.1 (by
    rcases Nat.eq_zero_or_pos K with e|e
    ·have:=HX.out;rw [e] at this;simp at this;omega
    ·exact e)
   obtain ⟨m,hm⟩:∃m,ts.length=m:=⟨_,rfl⟩
   have hm0:0 < m:=by
    rcases Nat.eq_zero_or_pos m with e|e
    ·rw [e] at hm;obtain rfl:=List.length_eq_zero_iff.1 hm;exact absurd hT.symm (Dig.digits_dig X).2
    ·exact e
   obtain ⟨gg,cc,rfl,hgl,hcs⟩:=HOW.out.at_ rfl (hm ▸ hm0);rw [hm] at hcs htl;have HTX:=qh (And.intro hT (And.intro hL hcs));have q0:decide ((0:Int) < ((0:Nat):Int))=false:=by decide
   rw [hm];clear hts hT hL hcs HR HNX;have HBN:=qh (jiP (w:=U));rcases Bool.eq_false_or_eq_true g with eg|eg
   ·subst eg;have HW5:=qh (jek (B:=U.heap.size) (b:=U.heap.size) ⟨#[45]⟩ (.inl HBN.out) (by show 0+1≤_;omega) (by simp));go_wp2_with (go_at_call 191;refine HW5.out.mono ?_;rintro e5 w5 ⟨rfl,hI5,hb5⟩;(try have _:=bm hb5))
    obtain ⟨sg,hsg⟩:∃l,([45]:List UInt8)=l:=⟨_,rfl⟩;have HI:=qh (show Lib.IsBuilder 217 5 U.heap.size U.heap.size (Lib.byteCells sg) w5 from .inr (by rw [←hsg];exact hI5));have HV:=qh (show Below U.heap.size U w5 from ((Below.refl _ _).alloc (Nat.le_refl _) _).trans hb5);have HSG:=qh hsg;clear hsg HW5 hI5;have bV:Below W.heap.size W w5:=ja1 hb HV.out;have hs1:sg.length≤1:=by rw [←HSG.out];simp
    go_loopw [11] (fun u wr'=>∃(i:Int) (k:Nat),u= .int .i64 i∧i+1=(k:Int)∧k≤m∧Hid (Lib.IsBuilder 217 5 U.heap.size U.heap.size (Lib.byteCells (sg++(ts.drop k).reverse.flatten)) wr')∧Below U.heap.size U wr') (fun u wr'=>(intOf u+1).toNat)
    case atStart=>exact ⟨_,m,rfl,by omega,Nat.le_refl _,by rw [←hm];simpa using HI,HV.out⟩
    case round=>
     obtain ⟨i,k,rfl,hik,hkm,HI2,hb7⟩:=hrel
     (try have _:=bm hb7)
     rcases Nat.eq_zero_or_pos k with ek|hk
     ·subst ek;have r0:decide ((0:Int)≤i)=false:=by rw [decide_eq_false_iff_not];omega
      have HST:=qh (Tryz.Builder_String_any U.heap.size U.heap.size (sg++(ts.drop 0).reverse.flatten) _ HI2.out hb7.size);have HTT:=qh HTX.out.1;go_wp2_with (go_at_call 192;refine HST.out.mono ?_;rintro e8 w8 ⟨rfl,hb8⟩;(try have _:=bm hb8))
      have bU:Below w.heap.size w U:=ja1 bW hb;go_ret;exact ⟨(show Ending.returned (bs (sg++ts.reverse.flatten))=_ from by rw [HTT.out,←HSG.out];rfl),ja1 bU (hb7.trans hb8)⟩
     ·obtain ⟨j,rfl⟩:∃j,k=j+1:=⟨k - 1,by omega⟩;obtain rfl:i=(j:Int):=by omega
      have hj:j < m:=by omega
      have r0:decide ((0:Int)≤(j:Int))=true:=by rw [decide_eq_true_iff];omega
      have hcj:=ja5 hb7 (HTX.out.2.2 j hj);obtain ⟨t,ht⟩:∃t,ts.getD j []=t:=⟨_,rfl⟩;have HF:=qh (jm9 (ts:=ts) (j:=j) (by omega));rw [ht] at hcj HF
      have HWR:=qh (jek (B:=U.heap.size) ⟨t.toArray⟩ HI2.out (by
       have e1:=jp4 ts j;rw [HF.out,HTX.out.1,List.length_append] at e1;have e2:=HTX.out.2.1;generalize (ts.drop (j+1)).reverse.flatten=A at e1 ⊢;simp [Lib.byteCells,ByteArray.size]
       omega) hb7.size)
      clear ht;go_wp2_with (go_at_call 191;refine HWR.out.mono ?_;rintro e8 w8 ⟨rfl,hI8,hb8⟩;(try have _:=bm hb8))
      exact ⟨⟨_,j,rfl,by omega,by omega,qh (.inr (by have h:=hI8;rw [jhY] at h;rw [HF.out,←List.append_assoc];exact h)),hb7.trans hb8⟩,by simp [intOf]⟩
   ·subst eg;go_wp2;obtain ⟨V,hV⟩:∃V,U.alloc (.cells #[.pointer none, .slice none 0 0] 217)=V:=⟨_,rfl⟩;obtain ⟨sg,hsg⟩:∃l,([]:List UInt8)=l:=⟨_,rfl⟩;have HI:=qh (show Lib.IsBuilder 217 5 U.heap.size U.heap.size (Lib.byteCells sg) V from .inl (by rw [←hsg,←hV];exact HBN.out));have HV:=qh (show Below U.heap.size U V from by rw [←hV];exact (Below.refl _ _).alloc (Nat.le_refl _) _);rw [hV];clear hV;have HSG:=qh hsg;clear hsg;have bV:Below W.heap.size W V:=ja1 hb HV.out;have hs1:sg.length≤1:=by rw [←HSG.out];simp
    go_loopw [11] (fun u wr'=>∃(i:Int) (k:Nat),u= .int .i64 i∧i+1=(k:Int)∧k≤m∧Hid (Lib.IsBuilder 217 5 U.heap.size U.heap.size (Lib.byteCells (sg++(ts.drop k).reverse.flatten)) wr')∧Below U.heap.size U wr') (fun u wr'=>(intOf u+1).toNat)
    case atStart=>exact ⟨_,m,rfl,by omega,Nat.le_refl _,by rw [←hm];simpa using HI,HV.out⟩
    case round=>
     obtain ⟨i,k,rfl,hik,hkm,HI2,hb7⟩:=hrel
     (try have _:=bm hb7)
     rcases Nat.eq_zero_or_pos k with ek|hk
     ·subst ek;have r0:decide ((0:Int)≤i)=false:=by rw [decide_eq_false_iff_not];omega
      have HST:=qh (Tryz.Builder_String_any U.heap.size U.heap.size (sg++(ts.drop 0).reverse.flatten) _ HI2.out hb7.size);have HTT:=qh HTX.out.1;go_wp2_with (go_at_call 192;refine HST.out.mono ?_;rintro e8 w8 ⟨rfl,hb8⟩;(try have _:=bm hb8))
      have bU:Below w.heap.size w U:=ja1 bW hb;go_ret;exact ⟨(show Ending.returned (bs (sg++ts.reverse.flatten))=_ from by rw [HTT.out,←HSG.out];rfl),ja1 bU (hb7.trans hb8)⟩
     ·obtain ⟨j,rfl⟩:∃j,k=j+1:=⟨k - 1,by omega⟩;obtain rfl:i=(j:Int):=by omega
      have hj:j < m:=by omega
      have r0:decide ((0:Int)≤(j:Int))=true:=by rw [decide_eq_true_iff];omega
      have hcj:=ja5 hb7 (HTX.out.2.2 j hj);obtain ⟨t,ht⟩:∃t,ts.getD j []=t:=⟨_,rfl⟩;have HF:=qh (jm9 (ts:=ts) (j:=j) (by omega));rw [ht] at hcj HF
      have HWR:=qh (jek (B:=U.heap.size) ⟨t.toArray⟩ HI2.out (by
       have e1:=jp4 ts j;rw [HF.out,HTX.out.1,List.length_append] at e1;have e2:=HTX.out.2.1;generalize (ts.drop (j+1)).reverse.flatten=A at e1 ⊢;simp [Lib.byteCells,ByteArray.size]
       omega) hb7.size)
      clear ht;go_wp2_with (go_at_call 191;refine HWR.out.mono ?_;rintro e8 w8 ⟨rfl,hI8,hb8⟩;(try have _:=bm hb8))
      exact ⟨⟨_,j,rfl,by omega,by omega,qh (.inr (by have h:=hI8;rw [jhY] at h;rw [HF.out,←List.append_assoc];exact h)),hb7.trans hb8⟩,by simp [intOf]⟩
  ·have q0:decide ((0:Int) < (n:Int))=true:=by rw [decide_eq_true_iff];omega
   have q0':decide (0 < n)=true:=by rw [decide_eq_true_iff];omega
   have hx0:0 < x:=by
    rcases Nat.eq_zero_or_pos x with e|e
    ·have:=HNX.out.zero.1 e;omega
    ·exact e
   have hcs:=jop hx0 HR.out.1.2.2;have hfx:Few x:=jrF hK (Nat.lt_of_lt_of_le HR.out.1.2.2 (Nat.pow_le_pow_right (by omega) (by omega)));have HDV:=qh (jiI HNX.out (HB.out.below hb) hfx);obtain ⟨q,hq⟩:∃q,x / 10^18=q:=⟨_,rfl⟩;obtain ⟨r,hr⟩:∃q,x % 10^18=q:=⟨_,rfl⟩;have hrl:r < 10^18:=by rw [←hr];exact Nat.mod_lt _ (by decide)
   have hqx:q < x:=by rw [←hq];exact Nat.div_lt_self hx0 (by decide)
   have HM:=qh (And.intro (fun h=>joZ (x:=x) (ts:=ts) h HR.out.1.1) (fun h=>joa hx0 (x:=x) (ts:=ts) h HR.out.1.1));have HVX:=qh HNX.out.valW;rw [hq,hr] at HM;obtain ⟨S,hS⟩:∃S,Lib.decDigits r=S:=⟨_,rfl⟩;have hpad:=jqm hrl;have hSl:=jq3 hrl;rw [hS] at HM hpad hSl;obtain ⟨P,hP⟩:∃P,dD r 18=P:=⟨_,rfl⟩;rw [hP] at HM hpad;have HPD:=qh (And.intro hpad (And.intro hSl hS));rw [hq,hr] at HDV;rw [hq] at hcs;have HS:=qh (And.intro hcs (And.intro hqx (And.intro htl hrl)));have HFM:=qh (fun W' (hb':Below W.heap.size W W')=>jfi (u:=r) (HE.out _ (ja1 bW hb')) (Nat.lt_trans hrl (by decide)));rw [hS] at HFM;clear hcs hfx hq hr hqx hrl htl hx0 hn hpad hSl hS hP;go_upto_region 9 with (go_at_call 163;(with_reducible refine HDV.out.mono ?_);rintro e2 w2 ⟨Q,k,kc,R,j,jc,rfl,hQ,hR,hF,hb2⟩;(try have _:=bm hb2);have H2:=qh (And.intro hQ (And.intro hR hF));clear hQ hR hF)
   have HBW2:=qh (ja1 hb hb2);have hjz:=H2.out.2.1.zero;have hkz:=H2.out.1.zero;have HZ:=qh HBW2.out.size;rcases Nat.eq_zero_or_pos j with ej|hj
   ·subst ej;have hr0:r=0:=hjz.2 rfl;have p0:decide ((0:Int) < ((0:Nat):Int))=false:=by decide
    obtain rfl:S=[48]:=by rw [←HPD.out.2.2,hr0];decide+kernel
    clear hjz hr0;rcases Nat.eq_zero_or_pos k with ek|hk
    ·subst ek;have hq0:q=0:=hkz.2 rfl;have HD:=qh (HM.out.2 hq0);clear hkz hq0 HM;go_wp2_with first|(at_builtin;refine jaR (v:=u6) (x:=[48]) rfl _ _ rfl rfl rfl rfl (HOW.out.below bi) rfl (by have:=HS.out.2.2.1;omega) (by have:=HZ.out;have:=hb2.size;simp;omega) (by simp) ?_;intro g5 c5 w5 ho5 hg5 hk5)
     have hbk:Below w2.heap.size w2 w2:=bi;have hbA:=(ja1 hb2 hbk).alloc ((ja1 hb2 hbk).size) (.cells #[bs [48]] 9);have hbQ:=hbk.alloc hbk.size (.cells #[bs [48]] 9);have hsz:=hbk.size
     have HNQ:=qh ((H2.out.1.below hbQ).grown hg5 (fun hk b o e=>by
      subst e;have h1:=H2.out.2.2 b o rfl;have h2:=H2.out.1.blk hk;intro e2;rcases hk5 with e3|e3
      ·rw [e3] at e2;cases e2
       have:=HOW.out.lt _ e3;omega
      ·have:=HOW.out.lt _ e2
       omega))
     exact ⟨⟨q,ts++[[48]],Q,_,kc,rfl,HNQ,by rw [List.length_append,List.length_singleton];exact ho5,(ja4 (ja1 HBW2.out hbk) _).trans (ja8 (base:=W.heap.size) hg5 (by have:=HZ.out;have:=hsz;simp;omega) HOW.out.ge),qh ⟨⟨HD.out,by have:=HS.out.1.1;rw [List.length_append,List.length_singleton];omega,by rw [List.length_append,List.length_singleton];exact HS.out.1.2⟩,fun hk b o e=>by
      subst e;have h1:=H2.out.2.2 b o rfl;have h2:=H2.out.1.blk hk;intro e2;simp only [Value.ownBlock] at e2;cases e2
      rcases hk5 with e3|e3
      ·have:=HOW.out.lt _ e3;omega
      ·simp at e3
       omega⟩⟩,by
      have e1:=HNQ.out.valW;have e2:=HVX.out;have e3:=HS.out.2.1;simp;rw [e1,e2]
      exact e3⟩
    ·have hq0:0 < q:=by
      rcases Nat.eq_zero_or_pos q with e|e
      ·have:=hkz.1 e;omega
      ·exact e
     have HD:=qh (HM.out.1 hq0);have p1:decide ((0:Int) < (k:Int))=true:=by rw [decide_eq_true_iff];omega
     have p2:decide (0 < k)=true:=by rw [decide_eq_true_iff];omega
     obtain ⟨Z,hZ⟩:∃Z,List.replicate 17 (48:UInt8)=Z:=⟨_,rfl⟩;have HRP:=qh (fun W=>(show Calls Tryz.prog 190 #[.string ⟨#[48]⟩, .int .i64 17] W fun e w'=>e= .returned (bs Z)∧Below W.heap.size W w' from jmq (w:=W) (c:=17) (by omega) hZ));have hZl:Z.length=17:=by rw [←hZ];simp
     have c1:(⟨Z.toArray⟩:ByteArray)++⟨#[48]⟩=⟨P.toArray⟩:=(jiN Z [48]).trans (by rw [←HPD.out.1,←hZ];rfl);have c2:Z.length≤9223372036854775806:=by omega
     have c3:¬(9223372036854775807 < Z.length+1):=by omega
     clear hkz hq0 HM hZ hZl hk;go_wp2_with first|(go_at_call 190;(with_reducible refine mo0 (HRP.out _) fun w3 hb3 hc3 hf3 _=> ?_))|(at_builtin;refine jaR (v:=u6) (x:=P) rfl _ _ rfl rfl rfl rfl (HOW.out.below bi) rfl (by have:=HS.out.2.2.1;omega) (by have:=HZ.out;have:=hb3.size;simp;omega) (by simp) ?_;intro g5 c5 w5 ho5 hg5 hk5)
     have hbk:Below w2.heap.size w2 w3:=bi;have hbA:=(ja1 hb2 hbk).alloc ((ja1 hb2 hbk).size) (.cells #[bs P] 9);have hbQ:=hbk.alloc hbk.size (.cells #[bs P] 9);have hsz:=hbk.size
     have HNQ:=qh ((H2.out.1.below hbQ).grown hg5 (fun hk b o e=>by
      subst e;have h1:=H2.out.2.2 b o rfl;have h2:=H2.out.1.blk hk;intro e2;rcases hk5 with e3|e3
      ·rw [e3] at e2;cases e2
       have:=HOW.out.lt _ e3;omega
      ·have:=HOW.out.lt _ e2
       omega))
     exact ⟨⟨q,ts++[P],Q,_,kc,rfl,HNQ,by rw [List.length_append,List.length_singleton];exact ho5,(ja4 (ja1 HBW2.out hbk) _).trans (ja8 (base:=W.heap.size) hg5 (by have:=HZ.out;have:=hsz;simp;omega) HOW.out.ge),qh ⟨⟨HD.out,by have:=HS.out.1.1;rw [List.length_append,List.length_singleton];omega,by rw [List.length_append,List.length_singleton];exact HS.out.1.2⟩,fun hk b o e=>by
      subst e;have h1:=H2.out.2.2 b o rfl;have h2:=H2.out.1.blk hk;intro e2;simp only [Value.ownBlock] at e2;cases e2
      rcases hk5 with e3|e3
      ·have:=HOW.out.lt _ e3;omega
      ·simp at e3
       omega⟩⟩,by
      have e1:=HNQ.out.valW;have e2:=HVX.out;have e3:=HS.out.2.1;simp;rw [e1,e2]
      exact e3⟩
   ·have hr0:0 < r:=by
     rcases Nat.eq_zero_or_pos r with e|e
     ·have:=hjz.1 e;omega
     ·exact e
    obtain ⟨rfl,b,o,rfl,hbl,hcell⟩:=H2.out.2.1.word (Nat.lt_trans HS.out.2.2.2 (by rw [ja7];decide)) hr0;have p0:decide ((0:Int) < ((1:Nat):Int))=true:=by decide
    clear hjz hr0 hj;go_upto_region 11 with (go_at_call 189;(with_reducible refine mz (HFM.out _ HBW2.out) fun w3 hb3 _=> ?_))
    clear hcell hbl;rcases Nat.eq_zero_or_pos k with ek|hk
    ·subst ek;have hq0:q=0:=hkz.2 rfl;have HD:=qh (HM.out.2 hq0);clear hkz hq0 HM;go_wp2_with first|(at_builtin;refine jaR (v:=u6) (x:=S) rfl _ _ rfl rfl rfl rfl (HOW.out.below bi) rfl (by have:=HS.out.2.2.1;omega) (by have:=HZ.out;have:=hb3.size;simp;omega) (by simp) ?_;intro g5 c5 w5 ho5 hg5 hk5)
     have hbk:Below w2.heap.size w2 w3:=bi;have hbA:=(ja1 hb2 hbk).alloc ((ja1 hb2 hbk).size) (.cells #[bs S] 9);have hbQ:=hbk.alloc hbk.size (.cells #[bs S] 9);have hsz:=hbk.size
     have HNQ:=qh ((H2.out.1.below hbQ).grown hg5 (fun hk b o e=>by
      subst e;have h1:=H2.out.2.2 b o rfl;have h2:=H2.out.1.blk hk;intro e2;rcases hk5 with e3|e3
      ·rw [e3] at e2;cases e2
       have:=HOW.out.lt _ e3;omega
      ·have:=HOW.out.lt _ e2
       omega))
     exact ⟨⟨q,ts++[S],Q,_,kc,rfl,HNQ,by rw [List.length_append,List.length_singleton];exact ho5,(ja4 (ja1 HBW2.out hbk) _).trans (ja8 (base:=W.heap.size) hg5 (by have:=HZ.out;have:=hsz;simp;omega) HOW.out.ge),qh ⟨⟨HD.out,by have:=HS.out.1.1;rw [List.length_append,List.length_singleton];omega,by rw [List.length_append,List.length_singleton];exact HS.out.1.2⟩,fun hk b o e=>by
      subst e;have h1:=H2.out.2.2 b o rfl;have h2:=H2.out.1.blk hk;intro e2;simp only [Value.ownBlock] at e2;cases e2
      rcases hk5 with e3|e3
      ·have:=HOW.out.lt _ e3;omega
      ·simp at e3
       omega⟩⟩,by
      have e1:=HNQ.out.valW;have e2:=HVX.out;have e3:=HS.out.2.1;simp;rw [e1,e2]
      exact e3⟩
    ·have hq0:0 < q:=by
      rcases Nat.eq_zero_or_pos q with e|e
      ·have:=hkz.1 e;omega
      ·exact e
     have HD:=qh (HM.out.1 hq0);have p1:decide ((0:Int) < (k:Int))=true:=by rw [decide_eq_true_iff];omega
     have p2:decide (0 < k)=true:=by rw [decide_eq_true_iff];omega
     obtain ⟨jz,hjz⟩:∃j,18 - S.length=j:=⟨_,rfl⟩;have hSl:=HPD.out.2.1;obtain ⟨Z,hZ⟩:∃Z,List.replicate jz (48:UInt8)=Z:=⟨_,rfl⟩;have m1:(18:Int) - (S.length:Int)=(jz:Int):=by omega
     have HRP:=qh (fun W=>jmq (w:=W) (c:=jz) (by omega) hZ);have hZl:Z.length=jz:=by rw [←hZ];simp
     have c1:(⟨Z.toArray⟩:ByteArray)++⟨S.toArray⟩=⟨P.toArray⟩:=(jiN Z S).trans (by rw [←HPD.out.1,←hZ,hjz]);have c2:Z.length≤9223372036854775807 - S.length:=by omega
     have c3:¬(9223372036854775807 < Z.length+S.length):=by omega
     clear hkz hq0 HM hZ hZl hk hjz hSl;go_wp2_with first|(go_at_call 190;(with_reducible refine mo0 (HRP.out _) fun w4 hb4 hc4 hf4 _=> ?_))|(at_builtin;refine jaR (v:=u6) (x:=P) rfl _ _ rfl rfl rfl rfl (HOW.out.below bi) rfl (by have:=HS.out.2.2.1;omega) (by have:=HZ.out;have:=Nat.le_trans hb3.size hb4.size;simp;omega) (by simp) ?_;intro g5 c5 w5 ho5 hg5 hk5)
     have hbk:Below w2.heap.size w2 w4:=bi;have hbA:=(ja1 hb2 hbk).alloc ((ja1 hb2 hbk).size) (.cells #[bs P] 9);have hbQ:=hbk.alloc hbk.size (.cells #[bs P] 9);have hsz:=hbk.size
     have HNQ:=qh ((H2.out.1.below hbQ).grown hg5 (fun hk b o e=>by
      subst e;have h1:=H2.out.2.2 b o rfl;have h2:=H2.out.1.blk hk;intro e2;rcases hk5 with e3|e3
      ·rw [e3] at e2;cases e2
       have:=HOW.out.lt _ e3;omega
      ·have:=HOW.out.lt _ e2
       omega))
     exact ⟨⟨q,ts++[P],Q,_,kc,rfl,HNQ,by rw [List.length_append,List.length_singleton];exact ho5,(ja4 (ja1 HBW2.out hbk) _).trans (ja8 (base:=W.heap.size) hg5 (by have:=HZ.out;have:=hsz;simp;omega) HOW.out.ge),qh ⟨⟨HD.out,by have:=HS.out.1.1;rw [List.length_append,List.length_singleton];omega,by rw [List.length_append,List.length_singleton];exact HS.out.1.2⟩,fun hk b o e=>by
      subst e;have h1:=H2.out.2.2 b o rfl;have h2:=H2.out.1.blk hk;intro e2;simp only [Value.ownBlock] at e2;cases e2
      rcases hk5 with e3|e3
      ·have:=HOW.out.lt _ e3;omega
      ·simp at e3
       omega⟩⟩,by
      have e1:=HNQ.out.valW;have e2:=HVX.out;have e3:=HS.out.2.1;simp;rw [e1,e2]
      exact e3⟩
end

theorem jgM {K:Nat} {z:Int} (hK:K≤20000) (hz:z.natAbs < 10^K):jh1 z:=fun w s A n c h hE=>by
 cases A with
 | none=>
   obtain ⟨rfl,rfl,rfl,hr⟩:=h.none_;exact jjh _ w hr hE
 | some p=>
   rcases Nat.eq_zero_or_pos z.natAbs with e|e
   ·have e0:z=0:=by omega
    have:=h.small_none (by subst e0;constructor <;> decide) (by omega);exact absurd this (by simp)
   ·exact jmE hK h hE hz e
theorem Dz.strQ {k:Nat} {x:Rat} (h:Dz k x) (hk:k≤20000):StrQ x:=
 ⟨jgM hk h.num,jgM hk (by rw [Int.natAbs_natCast];exact h.den)⟩
end Go.Proofs.YteokfcjdfjhhhaaGreatDoor
