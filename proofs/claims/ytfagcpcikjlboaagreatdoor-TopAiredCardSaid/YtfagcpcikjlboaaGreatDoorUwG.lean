/- Parts. -/
import Derived.Test.YtfagcpcikjlboaaGreatDoorShelh
import Derived.Test.YtfagcpcikjlboaaGreatDoorKaG
import Derived.Lib.AppendStr
import Derived.Lib.Builder
set_option linter.all false
set_option maxRecDepth 100000
set_option maxHeartbeats 8000000
namespace Go.Proofs.YtfagcpcikjlboaaGreatDoor
open Go Go.RowKit Go.Proofs.Tryz

def jv7 (w:World) (e:Ending):Prop:=∀A n c u,e= .returned (.tuple #[.slice A n c,u])→∀b o,A=some ⟨b,o,none⟩→w.heap.size≤b
theorem jif (A A':Option Addr) (n c c':Nat) (ds es:List Nat) (w:World) (h:Wd w A n ds) (h':Wd w A' 1 es) (t:Pos.Trim ds) (t':Pos.Trim es) (hn:n < 549755813888) (hl:Pos.nv B64 es≤Pos.nv B64 ds):
  Calls prog 146 #[.slice A n c, .slice A' 1 c'] w (fun e w'=>jce (Pos.nv B64 ds) (Pos.nv B64 es) w e w'∧jv7 w e):=by
 obtain rfl:=h.len;obtain ⟨y,rfl⟩:∃y,es=[y]:=List.length_eq_one_iff.1 h'.len;have hy:0 < y:=by have:=t'.last (by simp);simp at this;omega
 have hyB:y < B64:=h'.dig y (by simp);have hes:Pos.nv B64 [y]=y:=Pos.nv_one y;obtain ⟨z,hz0,hz1⟩:=jdL (c:=c) (c':=c') h h' t t' hl;have H1:=qh hz1;rw [hes];have HD:=qh h;have HE:=qh h';have HT:=qh t;have HY:=qh hyB;have hmk:=fun W=>jbs ds.length (by omega) W
 clear h h' t t' hl hes hyB hz1;go_enter func146,ntmps146;go_wp2_with (go_at_call 173;((with_reducible refine mz (H1.o) fun w1 hb1 _=> ?_));have HB:=qh hb1;clear hb1)
 go_loopw [7,8] (fun r i wr=>∃(k r':Nat) (zs:List Nat),k≤ds.length∧i= .int .i64 ((k:Int) - 1)∧r= .int .u64 (r':Int)∧MulInv w1 wr w1.heap.size ds.length zs∧OneInv ds zs k y r') (fun _ i _=>(intOf i+1).toNat)
 case atStart=>
  refine ⟨ds.length,0,_,Nat.le_refl _,rfl,rfl, ?_,OneInv.start ds hy⟩;exact { len:=by simp,dig:=fun d hd=>by rw [List.mem_replicate] at hd;rw [hd.2];exact ja6,blk:=by rw [jcf];exact Blk.new _ _ _,bel:=(Below.refl _ _).alloc (Nat.le_refl _) _,own:=Nat.le_refl _ }
 case round=>
  obtain ⟨k,r,zs,hk,rfl,rfl,hI,hO⟩:=hrel;cases k with
  | zero=>
    have wz:Wd wr (some ⟨w1.heap.size,0,none⟩) ds.length zs:=Wd.of_blk hI.blk rfl hI.len (by omega) hI.dig;have wb:=hI.bel;obtain ⟨v1,v2⟩:=hO.stop;have hrB:r < B64:=Nat.lt_trans hO.rest HY.o;have WZ:=qh wz;have WB:=qh wb;have V1:=qh v1;have V2:=qh v2;have RB:=qh hrB;clear hI hO wz wb v1 v2 hrB;go_wp2_with fail
    refine (jbd _ _ _ _ _ WZ.o (Nat.le_refl _) (by omega)).mono ?_
    rintro e w2 ⟨j,hj,ht,hv,rfl,rfl⟩
    have HT1:=qh ht;have HV1:=qh hv;have HJ:=qh hj;clear ht hv hj;go_wp2_with fail
    have wr1:Wd (wr.alloc (.cells #[Value.int .u64 (r:Int)] 168)) (some ⟨wr.heap.size,0,none⟩) 1 [r]:=
     Wd.of_blk (Blk.new _ _ _) rfl rfl (by omega) (fun d hd=>by rw [List.mem_singleton] at hd;rw [hd];exact RB.o)
    refine (jbd _ _ _ _ _ wr1 (Nat.le_refl _) (by omega)).mono ?_
    rintro e w3 ⟨j2,hj2,ht2,hv2,rfl,rfl⟩
    have HT2:=qh ht2;have HV2:=qh hv2;have WR:=qh wr1;clear ht2 hv2 wr1;go_wp2;go_ret2;have hbb:Below w.heap.size w (wr.alloc (.cells #[Value.int .u64 (r:Int)] 168)):=ja5 (ja0 HB.o WB.o) _;have hba:Below wr.heap.size wr (wr.alloc (.cells #[Value.int .u64 (r:Int)] 168)):=(Below.refl _ _).alloc (Nat.le_refl _) _;exact ⟨jf4 rfl ⟨HJ.o,by omega,(WZ.o.below hba).take HJ.o,HT1.o,HV1.o.trans V1.o⟩ ⟨hj2,by omega,WR.o.take hj2,HT2.o,HV2.o.trans (by rw [Pos.nv_one];exact V2.o)⟩ hbb,fun A n c u he b o hA=>by cases he;cases hA;exact HB.o.size⟩
  | succ k=>
    obtain ⟨b,o,rfl,hb,hcell⟩:=(HD.o.below HB.o).at_ (by omega);have hcl:=(hI.bel.cell (p:=⟨b,o+k,none⟩) hb).trans (hcell k (by omega));obtain ⟨b',o',rfl,hb',hcell'⟩:=(HE.o.below HB.o).at_ (by omega);have hcl':=(hI.bel.cell (p:=⟨b',o'+0,none⟩) hb').trans (hcell' 0 (by omega));simp only [Nat.add_zero] at hcl';rw [show dg [y] 0=y from rfl] at hcl';obtain ⟨pl1,pl2⟩:=hI.place (j:=k) (by omega);have hu:=ja8 HD.o.dig k;have hdg:=hO.digit HD.o.dig;have hS:=hO.step (by omega);obtain ⟨q,hq⟩:∃q,q=(r*B64+dg ds k) / y:=⟨_,rfl⟩;obtain ⟨r2,hr2⟩:∃q,q=(r*B64+dg ds k) % y:=⟨_,rfl⟩;rw [←hq,←hr2] at hS;rw [←hq] at hdg
    have D:∀W,Calls prog 177 #[.int .u64 (r:Int), .int .u64 (dg ds k:Int), .int .u64 (y:Int)] W fun e w'=>e= .returned (.tuple #[.int .u64 (q:Int), .int .u64 (r2:Int)])∧∃m,w'=W.drewN m:=
     fun W=>(jd4 r (dg ds k) y hO.rest hu HY.o W).mono fun e w' ⟨he,hm⟩=>⟨by rw [he,hq,hr2],hm⟩
    have HDV:=qh D;have HS:=qh hS;have HI:=qh hI;have HG:=qh hdg;have i1:(k:Int) < (ds.length:Int):=by omega
    have HK:=qh hk;clear hcell hcell' hu hdg hS hq hr2 D hI hO hk;go_wp2
    go_region_held3 (fun w'=>w'.cell? ⟨b,o+k,none⟩=some (.int .u64 ((dg ds k:Nat):Int))∧w'.cell? ⟨b',o',none⟩=some (.int .u64 (y:Int)))
     (refine ⟨?_, ?_⟩ <;> first|(go_keep;done)|(go_split_ands;(repeat rw [World.cell?_setCell_far _ _ _ _ (by dsimp only;omega)]);assumption))
     ((go_at_call 177;refine (HDV.o _).mono ?_;rintro e w2 ⟨rfl,md,rfl⟩))
    go_wp2;exact ⟨⟨k,r2,_,by have:=HK.o;omega,rfl,rfl,(HI.o.drewN (1+md)).put k q HG.o,HS.o⟩,by simp [intOf]⟩
theorem jgq (A A':Option Addr) (n n' c c':Nat) (ds es:List Nat) (w:World) (h:Wd w A n ds) (h':Wd w A' n' es) (t:Pos.Trim ds) (t':Pos.Trim es) (hn:n≤c) (hc:c < 1099511627776) (hl:Pos.nv B64 ds < Pos.nv B64 es):
  Calls prog 146 #[.slice A n c, .slice A' n' c'] w (fun e w'=>jce (Pos.nv B64 ds) (Pos.nv B64 es) w e w'∧jv7 w e):=by
 have H1:=qh (jfG (c:=c) (c':=c') h h' t t' hl);have HD:=qh h;have HT:=qh t;have HL:=qh hl;clear h h' t t' hl;go_enter func146,ntmps146;go_wp2_with (go_at_call 173;((with_reducible refine mz (H1.o) fun w1 hb1 _=> ?_));have HB:=qh hb1;clear hb1)
 go_ret2;exact ⟨jf4 (A:=none) (n:=0) (c:=0) (B:=A) (m:=n) (d:=c) (qs:=[]) (rs:=ds) rfl ⟨Nat.le_refl _,by omega,Wd.nil _ _,Pos.Trim.nil,by rw [Nat.div_eq_of_lt HL.o];rfl⟩ ⟨hn,hc,HD.o.below HB.o,HT.o,by rw [Nat.mod_eq_of_lt HL.o]⟩ HB.o,fun A n c u he b o hA=>by cases he;cases hA⟩
theorem jiX {w:World} {A A':Option Addr} {n c c' x y:Nat} (h:NumW w A n c x) (h':NumW w A' 1 c' y) (hx:Few x):Calls prog 146 #[.slice A n c, .slice A' 1 c'] w fun e w'=>∃Q k kc R j jc,e= .returned (.tuple #[.slice Q k kc, .slice R j jc])∧NumW w' Q k kc (x / y)∧NumW w' R j jc (x % y)∧(∀b o,Q=some ⟨b,o,none⟩→w.heap.size≤b)∧Below w.heap.size w w':=by
 obtain ⟨ds,h1,h2,h3,h4,h5⟩:=h.ex;obtain ⟨es,g1,g2,g3,g4,g5⟩:=h'.ex;have l1:=jcT h1 h2 h5 hx;subst h5 g5
 have key:Calls prog 146 #[.slice A n c, .slice A' 1 c'] w (fun e w'=>jce (Pos.nv B64 ds) (Pos.nv B64 es) w e w'∧jv7 w e):=by
  rcases Nat.lt_or_ge (Pos.nv B64 ds) (Pos.nv B64 es) with hl|hl
  ·exact jgq A A' n 1 c c' ds es w h1 g1 h2 g2 h3 h4 hl
  ·exact jif A A' n c c' ds es w h1 g1 h2 g2 (by omega) hl
 refine key.mono fun e w' ⟨h,hq⟩=> ?_
 obtain ⟨A,n,c,qs,B,m,d,rs,he,⟨a1,a2,a3,a4,a5⟩,⟨b1,b2,b3,b4,b5⟩,hb⟩:=h;exact ⟨A,n,c,B,m,d,he,⟨qs,a3,a4,a1,a2,a5⟩,⟨rs,b3,b4,b1,b2,b5⟩,hq A n c _ he,hb⟩
open Go.Sort (putRow)

theorem jlw {w:World} {T:TypeId} {d:Array UInt8} {n:Nat}:Below w.heap.size w ((Sort.putRow (fun (b:UInt8)=>Value.int .u8 (b.toNat:Int)) (w.alloc (.cells Lib.zeros24 T)) w.heap.size 0 d).drewN n):=
 jav (jmn (ja5 (Below.refl _ _) _) (Nat.le_refl _)) n
theorem jgn {w:World} {u:Nat} (hE:Env w) (hu:u < 18446744073709551616):Calls prog 181 #[.int .u64 (u:Int), .int .i64 10] w fun e w'=>e= .returned (bs (Lib.decDigits u))∧Below w.heap.size w w':=by
 by_cases hs:u < 100
 ·have q1:decide ((u:Int) < 100)=true:=by rw [decide_eq_true_iff];omega
  have q2:decide (u < 100)=true:=by rw [decide_eq_true_iff];omega
  have w1:IntKind.i64.wrap (u:Int)=(u:Int):=by rw [IntKind.wrap_i64];omega
  have HS:=qh (fun W=>Tryz.internal_strconv_small u hs W);clear hs hE hu;go_enter func181,ntmps181;go_wp2_with (go_at_call 212;(with_reducible refine (HS.o _).mono ?_);rintro e1 w1 ⟨rfl,rfl⟩)
  go_ret;exact ⟨rfl,bi⟩
 ·have hu1:1≤u:=by omega
  have q1:decide ((u:Int) < 100)=false:=by rw [decide_eq_false_iff_not];omega
  have q2:decide (u < 100)=false:=by rw [decide_eq_false_iff_not];omega
  have hnd20:Lib.nDigits u≤20:=by have:=Lib.numDigits_eq u hu1 hu;split at this <;> omega
  have hal:prog.arrayLen 244=24:=by simp [Program.arrayLen,underlying244]
  have hsl:∀W,(Instr.sliceAt 244 (.pointer (some ⟨w.heap.size,0,none⟩)) none (some (.int .i64 (Lib.nDigits u:Int))) none).run prog W= .ok (.slice (some ⟨w.heap.size,0,none⟩) (Lib.nDigits u) 24) W:=fun W=>by
   rw [run_sliceAt_array_h W 244 ⟨w.heap.size,0,none⟩ (by simp [Program.arrayLen,Program.elem,underlying244]) .i64 (Lib.nDigits u:Int) (by omega) (by rw [hal];omega)];go_simp
  have hH0:=Lib.holds_zero0 w 244 (Lib.nDigits u) (by omega);have hfmt:=Tryz.internal_strconv_formatBase10 w.heap.size 0 24 u (Array.replicate (Lib.nDigits u) 0) (w.alloc (.cells Lib.zeros24 244)) hH0 (by rw [Array.size_replicate];exact Lib.lt_pow_nDigits u) hu (by rw [Array.size_replicate];omega);rw [Array.size_replicate] at hfmt;have HH0:=qh hH0;have HF:=qh hfmt;have HN:=qh (fun W (hb:Below w.heap.size w W)=>Tryz.internal_strconv_numDigits u hu1 hu W (hE.below hb).tab.here);clear hH0 hal hfmt hs hE hu hu1 hnd20;go_enter func181,ntmps181;go_wp2_with first|(go_at_call 213;(with_reducible refine (HN.o _ bi).mono ?_);rintro e1 w1 ⟨rfl,rfl⟩)
  go_at_call 214
  refine HF.o.mono ?_
  rintro e2 w2 ⟨rfl,k,v',dk,rfl,hF⟩
  have hcv:(convert 194 9 (.slice (some ⟨w.heap.size,0,none⟩) (Lib.nDigits u) 24)).run prog ((putRow (fun (b:UInt8)=>Value.int .u8 (b.toNat:Int)) (w.alloc (.cells Lib.zeros24 244)) w.heap.size 0 dk).drewN k)= .ok (bs (Lib.decDigits u)) ((putRow (fun (b:UInt8)=>Value.int .u8 (b.toNat:Int)) (w.alloc (.cells Lib.zeros24 244)) w.heap.size 0 dk).drewN k):=by
   have h:=run_convert_bytes_back (P:=prog) ((putRow (fun (b:UInt8)=>Value.int .u8 (b.toNat:Int)) (w.alloc (.cells Lib.zeros24 244)) w.heap.size 0 dk).drewN k) 194 9 5 ⟨w.heap.size,0,none⟩ 24 (Lib.decDigits u) underlying194 underlying5 underlying9 (fun j hj=>by
    rw [Lib.row_is_numeral hF j hj,Lib.add_plain,World.cell?_drewN]
    exact Sort.cell?_putRow (fun (b:UInt8)=>Value.int .u8 (b.toNat:Int)) _ w.heap.size 0 _ dk HH0.o (by rw [hF.size,Array.size_replicate]) j (by rw [hF.size];rw [Lib.decDigits_length] at hj;exact hj))
   rw [Lib.decDigits_length] at h;exact h
  clear hF;have hb2:=jlw (w:=w) (T:=244) (d:=dk) (n:=k);go_wp2;go_ret;exact ⟨rfl,hb2⟩
theorem jfu {w:World} {u:Nat} (hE:Env w) (hu:u < 18446744073709551616):Calls prog 147 #[.int .u64 (u:Int), .int .i64 10] w fun e w'=>e= .returned (bs (Lib.decDigits u))∧Below w.heap.size w w':=by
 have HF:=qh (jgn hE hu);clear hE hu;go_enter func147,ntmps147;go_wp2_with (go_at_call 181;(with_reducible refine mo0 (HF.o) fun w1 hb1 hc1 hf1 _=> ?_))
 go_ret;exact ⟨rfl,bi⟩
section
variable {w:World} {b:Nat}
theorem jnT (h0:w.cell? ⟨b,0,none⟩=some (.pointer (some ⟨b,0,none⟩))):
  Calls prog 185 #[.pointer (some ⟨b,0,none⟩)] w fun e w'=>e= .returned (.tuple #[])∧w'=w:=by
 obtain ⟨j,hj,_⟩:=Option.map_eq_some_iff.1 Tryz.Builder_Extra_169.sizeBuilder;go_enter func185,ntmps185;go_wp2;rw [Lib.run_neq_ptr_same w _ underlying193 hj];go_wp2
 go_end0
 exact ⟨rfl,rfl⟩
theorem jkF (h0:w.cell? ⟨b,0,none⟩=some (.pointer none)) (hsh:w.shape? b=some (196,2)) (hfz:w.frozen? ⟨b,0,none⟩=false):
  Calls prog 185 #[.pointer (some ⟨b,0,none⟩)] w fun e w'=>e= .returned (.tuple #[])∧w'=w.setCell ⟨b,0,none⟩ (.pointer (some ⟨b,0,none⟩)):=by
 obtain ⟨j,hj,hjs⟩:=Option.map_eq_some_iff.1 Tryz.Builder_Extra_169.sizeBuilder;go_enter func185,ntmps185;go_wp2;rw [Lib.run_to_unsafe w ⟨b,0,none⟩ underlying193 underlying250 hj (by rw [hjs];decide) hsh (Nat.zero_lt_succ 1)];simp only [Result.andThen];rw [Oper.upon_value];go_wp2;rw [run_callFunc_extern func218 (by kernel_rfl) (by kernel_rfl) (by kernel_rfl) (e:=Extern.AbiNoEscape.same) (by kernel_rfl)];rw [Lib.run_noEscape];simp only [Result.andThen];rw [Oper.upon_value];go_wp2;rw [Lib.run_from_unsafe w ⟨b,0,none⟩ underlying250 underlying193 hj hsh Tryz.Builder_Extra_169.liesBuilder];simp only [Result.andThen];rw [Oper.upon_value];go_wp2
 go_end0
 exact ⟨rfl,rfl⟩
theorem jor {B:Nat} {ls:List Value} (h:Lib.IsBuilder 196 5 B b ls w):
  Calls prog 185 #[.pointer (some ⟨b,0,none⟩)] w fun e w'=>e= .returned (.tuple #[])∧(Lib.BuilderAt 196 5 B b (.pointer (some ⟨b,0,none⟩)) ls w'∧Below B w w'):=by
 rcases h with h|h
 ·refine (jkF h.cell0 h.shape h.frozen0).mono ?_
  rintro e w' ⟨rfl,rfl⟩
  exact ⟨rfl,h.used _,(Below.refl B w).setCell (p:=⟨b,0,none⟩) h.1 _⟩
 ·refine (jnT h.cell0).mono ?_
  rintro e w' ⟨rfl,rfl⟩
  exact ⟨rfl,h,Below.refl B _⟩
theorem jfk {B:Nat} {ls:List Value} (s:ByteArray) (h:Lib.IsBuilder 196 5 B b ls w) (hlen:ls.length+s.size≤140737488355328) (hBw:B≤w.heap.size):
  Calls prog 149 #[.pointer (some ⟨b,0,none⟩), .string s] w fun e w'=>e= .returned (.tuple #[.int .i64 s.size, .nilIface])∧(Lib.BuilderAt 196 5 B b (.pointer (some ⟨b,0,none⟩)) (ls++Lib.strCells s) w'∧Below B w w'):=by
 obtain ⟨i0,hi,hz0,hz1,hz2⟩:=info_parts Tryz.Builder_Extra_169.infoByte;go_enter func149,ntmps149;go_wp2_with (go_at_call 185;refine (jor h).mono ?_)
 rintro e w1 ⟨rfl,h1,hb1⟩;(try have _:=bm hb1)
 obtain ⟨hB,v,hbk,hown,hne⟩:=h1;have c0:w1.cell? ⟨b,0,none⟩=some (.pointer (some ⟨b,0,none⟩)):=by rw [Lib.cell_of_heap hbk];rfl
 have c1:w1.cell? ⟨b,1,none⟩=some v:=by rw [Lib.cell_of_heap hbk];rfl
 go_wp2_with (at_builtin;refine Lib.wpList_append_own_string _ rfl _ _ 194 9 rfl B 5 i0 underlying194 underlying9 hi hz0 hz1 hz2 _ _ _ rfl hown s rfl ?c3 ?c4 ?c5 ?_)
 case c3=>unfold maxLen;omega
 case c4=>omega
 case c5=>have:=hb1.size;omega
 intro v' w2 hown' hgrow _
 have hlt:b < w1.heap.size:=by
  rcases Nat.lt_or_ge b w1.heap.size with h'|h'
  ·exact h'
  ·simp [Array.getElem?_eq_none h'] at hbk
 have hb2:w2.heap[b]? =some (.cells #[.pointer (some ⟨b,0,none⟩),v] 196 (0,0)):=by
  rw [hgrow.block b hlt (fun e=>hne e.symm)];exact hbk
 have d0:w2.cell? ⟨b,0,none⟩=some (.pointer (some ⟨b,0,none⟩)):=by rw [Lib.cell_of_heap hb2];rfl
 have d1:w2.cell? ⟨b,1,none⟩=some v:=by rw [Lib.cell_of_heap hb2];rfl
 have f1:w2.frozen? ⟨b,1,none⟩=false:=Lib.frozen_of_heap hb2 1
 obtain ⟨ao,n',cap,rfl⟩:∃ao n' cap,v'= .slice ao n' cap:=by
  rcases hown'.2 with ⟨hv,_⟩|⟨g,cap,cur,hv,_⟩
  ·exact ⟨_,_,_,hv⟩
  ·exact ⟨_,_,_,hv⟩
 go_wp2;go_ret2;refine ⟨rfl, ?_, ?_⟩
 ·exact Lib.BuilderAt.put (T:=196) (e:=5) hB hb2 (bs':=ls++Lib.strCells s) (by simpa [Lib.strCells_length] using hown') (by decide)
 ·exact (hb1.grown hgrow (by have:=hb1.size;omega) (fun k hk=>(hown.lt k hk).1)).setCell (p:=⟨b,1,none⟩) hB _
end

abbrev jip (w:World) (base:Nat) (v:Value) (n:Nat) (ts:List (List UInt8)):Prop:=w.ownsRow base 9 1 v n (ts.map bs)
theorem jpH:(prog.info? 9).map (fun i=>(i.zero,i.size,i.bytes))=some (some (.string ByteArray.empty),1,16):=by kernel_rfl
theorem jip.at_ {w:World} {base n:Nat} {v:Value} {ts:List (List UInt8)} (h:jip w base v n ts) (hl:ts.length=n) (h0:0 < n):∃g c,v= .slice (some ⟨g,0,none⟩) n c∧g < w.heap.size∧∀j,j < n→w.cell? ⟨g,j,none⟩=some (bs (ts.getD j [])):=by
 rcases h.2 with ⟨rfl,h1⟩|⟨g,cap,cur,rfl,hb,hg,hnc,hcm,hcs,ht⟩
 ·omega
 ·refine ⟨g,cap,rfl,(Array.getElem?_eq_some_iff.1 hg).1,fun j hj=> ?_⟩;have hc:=World.ownsRow.cells h (g:=g) rfl;have hjl:j < ts.length:=by omega
  have:=hc j (bs (ts.getD j [])) (by rw [List.getElem?_map,List.getElem?_eq_getElem hjl,List.getD_eq_getElem?_getD,List.getElem?_eq_getElem hjl];rfl);rw [jdP] at this;exact this
theorem jip.ge {w:World} {base n:Nat} {v:Value} {ts:List (List UInt8)} (h:jip w base v n ts):∀k,v.ownBlock=some k→base≤k:=by
 intro k hk;rcases h.2 with ⟨rfl,h1⟩|⟨g,cap,cur,rfl,hb,hg,hnc,hcm,hcs,ht⟩
 ·simp [Value.ownBlock] at hk
 ·simp [Value.ownBlock] at hk;omega
theorem jip.lt {w:World} {base n:Nat} {v:Value} {ts:List (List UInt8)} (h:jip w base v n ts):∀k,v.ownBlock=some k→k < w.heap.size:=by
 intro k hk;rcases h.2 with ⟨rfl,h1⟩|⟨g,cap,cur,rfl,hb,hg,hnc,hcm,hcs,ht⟩
 ·simp [Value.ownBlock] at hk
 ·simp [Value.ownBlock] at hk;subst hk;exact (Array.getElem?_eq_some_iff.1 hg).1
theorem NumW.blk {w:World} {n c x b o:Nat} (h:NumW w (some ⟨b,o,none⟩) n c x) (h0:0 < n):b < w.heap.size:=by
 obtain ⟨ds,h1,_⟩:=h.ex;obtain ⟨b',o',e,hb,_⟩:=h1.at_ h0;cases e
 exact hb
theorem jip.below {w w':World} {base n:Nat} {v:Value} {ts:List (List UInt8)} (h:jip w base v n ts) (hb:Below w.heap.size w w'):jip w' base v n ts:=
 World.ownsRow.kept h (je8 hb none) (by cases hv:v.ownBlock <;> simp)
theorem joy {w:World} {base n b c:Nat} {v:Value} {ts:List (List UInt8)} {x:List UInt8} (h:jip w base v n ts) (hn:n≤100000) (hb:base≤w.heap.size) (h0:w.cell? ⟨b,0,none⟩=some (bs x)):
  ∃v' w',(Builtin.append_ #[188,188] 188 #[v, .slice (some ⟨b,0,none⟩) 1 c]).run prog w= .ok v' w'∧jip w' base v' (n+1) (ts++[x])∧w.grownBy w' v.ownBlock∧(v'.ownBlock=v.ownBlock∨v'.ownBlock=some w.heap.size):=by
 obtain ⟨i,hi,hz0,hz1,hz2⟩:=info_parts jpH
 obtain ⟨v',w',hr,k1,k2,_,k3⟩:=run_append_own_at (P:=prog) w base 188 188 9 i _ 1 16 underlying188 hi hz0 hz1 hz2 rfl (by decide) v n (ts.map bs) h ⟨b,0,none⟩ 1 c [bs x] (by simp)
  (by
    intro j u hu;rw [jdP]
    match j,hu with
    | 0,hu=>simp at hu;subst hu;exact h0
    | j+1,hu=>simp at hu)
  (by intro u hu;simp at hu;subst hu;rfl)
  (by simp only [maxLen];omega) (by omega) hb
 exact ⟨v',w',hr,by rw [jip,List.map_append];exact k1,k2,k3⟩
theorem jaE {ops:Array Oper} {rest:List Oper} {o:Oper} {a:Act} {Q:Exit→Act→World→Prop} {w:World} {base n b c:Nat} {v:Value} {ts:List (List UInt8)} {x:List UInt8} (hg:o.guard=none) (s y:Operand)
  (ho:o.op= .call { callee:= .builtin .append,args:= #[s,y],argTypes:= #[188,188] }) (ht:o.type=188) (hs:a.eval s=v) (hy:a.eval y= .slice (some ⟨b,0,none⟩) 1 c)
  (h:jip w base v n ts) (hl:ts.length=n) (hn:n≤100000) (hb:base≤w.heap.size) (h0:w.cell? ⟨b,0,none⟩=some (bs x))
  (hK:∀g c' w',jip w' base (.slice (some ⟨g,0,none⟩) (n+1) c') (n+1) (ts++[x])→w.grownBy w' v.ownBlock→(v.ownBlock=some g∨g=w.heap.size)→wpList prog ops Q rest (a.put o.dst (.slice (some ⟨g,0,none⟩) (n+1) c')) w'):wpList prog ops Q (o::rest) a w:=by
 obtain ⟨v',w',hr,k1,k2,k3⟩:=joy h hn hb h0;obtain ⟨g,c',rfl,_,_⟩:=jip.at_ k1 (by simp [hl]) (by omega);refine wpList_plain hg fun K' hK'=> ?_
 exact jiI s y ho hs hy (by rw [ht];exact hr) (hK' _ _ (hK g c' w' k1 k2 (by rcases k3 with k3|k3;(exact .inl k3.symm);(exact .inr (Option.some.inj k3)))))
def dcx (x:Nat):List UInt8:=if x=0 then [] else Lib.decDigits x
theorem jh5 {x:Nat} (h:0 < x):dcx x=Lib.decDigits x:=by unfold dcx;rw [if_neg (by omega)]
theorem jBZ {r:Nat} (h:r < 10^18):(Lib.decDigits r).length≤18:=jb0 (k:=18) h (by omega)
theorem jmM (c:Nat):Lib.repeatL [48] c=List.replicate c (48:UInt8):=by
 induction c with
 | zero=>rfl
 | succ c ih=>rw [Lib.repeatL,ih];rfl
theorem jgp:∀(k:Nat),dD 0 k=List.replicate k 48
 | 0=>by rw [jcY];rfl
 | k+1=>by
   rw [jbz (by omega)];simp only [Nat.zero_div,Nat.add_sub_cancel,Nat.zero_mod,Nat.add_zero];rw [jgp k,List.replicate_succ'];rfl
theorem jnk:∀(k r:Nat),0 < r→r < 10^k→List.replicate (k - (Lib.decDigits r).length) 48++Lib.decDigits r=dD r k
 | 0,r,h0,h=>by simp at h;omega
 | k+1,r,h0,h=>by
   have e1:Lib.decDigits r=dD r 1:=(jew r).symm;rw [jbz (n:=r) (k:=k+1) (by omega),Nat.add_sub_cancel];rcases Nat.eq_zero_or_pos (r / 10) with h1|h1
   ·have h2:Lib.decDigits r=[UInt8.ofNat (48+r % 10)]:=by
     rw [e1,jbz (by omega),h1];rw [show (1:Nat) - 1=0 from rfl,jcY];rfl
    rw [h1,jgp,h2];simp
   ·have h2:Lib.decDigits r=Lib.decDigits (r / 10)++[UInt8.ofNat (48+r % 10)]:=by
     rw [e1,jbz (by omega),show (1:Nat) - 1=0 from rfl,jf0 h1,jew]
    rw [h2,←jnk k (r / 10) h1 (jb3 h),List.length_append,List.length_singleton,←List.append_assoc]
    congr 3
    omega
theorem jso {r:Nat} (h:r < 10^18):List.replicate (18 - (Lib.decDigits r).length) 48++Lib.decDigits r=dD r 18:=by
 rcases Nat.eq_zero_or_pos r with e|e
 ·subst e;rw [jgp];have:Lib.decDigits 0=[48]:=by decide+kernel
  rw [this];rfl
 ·exact jnk 18 r e h
theorem jol {x:Nat} {ts:List (List UInt8)} {D:List UInt8} (h:0 < x / 10^18) (hD:dcx x++ts.reverse.flatten=D):dcx (x / 10^18)++(ts++[dD (x % 10^18) 18]).reverse.flatten=D:=by
 have h0:0 < x:=by rcases Nat.eq_zero_or_pos x with e|e;(subst e;simp at h);exact e
 have h1:=jmL 18 (x / 10^18) (x % 10^18) h (Nat.mod_lt _ (by decide));rw [Nat.div_add_mod' x (10^18),jew,jew] at h1;rw [←hD,jh5 h,jh5 h0,h1,List.reverse_append,List.flatten_append];simp
theorem jpX {x:Nat} {ts:List (List UInt8)} {D:List UInt8} (h0:0 < x) (h:x / 10^18=0) (hD:dcx x++ts.reverse.flatten=D):dcx (x / 10^18)++(ts++[Lib.decDigits (x % 10^18)]).reverse.flatten=D:=by
 have h1:x % 10^18=x:=Nat.mod_eq_of_lt (by
  rcases Nat.lt_or_ge x (10^18) with e|e
  ·exact e
  ·have:=Nat.div_pos e (by decide);omega)
 rw [←hD,h,h1,jh5 h0,List.reverse_append,List.flatten_append];simp [dcx]
theorem jpu {K x k:Nat} (h0:0 < x) (h:x < 10^(K - k)):k < K∧x / 10^18 < 10^(K - (k+1)):=by
 have hk:k < K:=by
  rcases Nat.lt_or_ge k K with e|e
  ·exact e
  ·rw [show K - k=0 by omega] at h;simp at h;omega
 refine ⟨hk, ?_⟩;have e:10^(K - k)=10^(K - (k+1))*10:=by rw [←Nat.pow_succ];congr 1;omega
 have h2:x / 10 < 10^(K - (k+1)):=by rw [Nat.div_lt_iff_lt_mul (by omega),←e];exact h
 exact Nat.lt_of_le_of_lt (Nat.div_le_div_left (by decide) (by decide)) h2
def valW (w:World) (v:Value):Nat:=match v with
 | .slice (some a) n _=>Pos.nv B64 ((List.range n).map fun j=>match w.cell? ⟨a.block,a.off+j,none⟩ with|some (.int _ z)=>z.toNat | _=>0)
 | _=>0
theorem NumW.valW {w:World} {A:Option Addr} {n c x:Nat} (h:NumW w A n c x):valW w (.slice A n c)=x:=by
 obtain ⟨ds,hw,_,_,_,rfl⟩:=h.ex;rcases Nat.eq_zero_or_pos n with h0|h0
 ·subst h0;obtain rfl:ds=[]:=List.length_eq_zero_iff.1 hw.len;unfold Go.Proofs.YtfagcpcikjlboaaGreatDoor.valW;cases A <;> simp [Pos.nv]
 ·obtain ⟨b,o,rfl,_,hc⟩:=hw.at_ h0;unfold Go.Proofs.YtfagcpcikjlboaaGreatDoor.valW;dsimp only
  congr 1
  apply List.ext_getElem
  ·simp [hw.len]
  ·intro j h1 h2;simp only [List.getElem_map,List.getElem_range];rw [hc j (by simpa using h1),gd (by rw [hw.len];simpa using h1)];simp
theorem NumW.zero {w:World} {A:Option Addr} {n c x:Nat} (h:NumW w A n c x):x=0↔n=0:=by
 obtain ⟨ds,h1,ht,_,_,hv⟩:=h.ex;constructor
 ·intro e;rcases Nat.eq_zero_or_pos n with h0|h0
  ·exact h0
  ·have:=Pos.nv_pos ja6 ht (by rw [h1.len];exact h0);omega
 ·intro e;subst e;rw [List.length_eq_zero_iff.1 h1.len] at hv;simpa [Pos.nv] using hv.symm
theorem NumW.grown {w w':World} {A:Option Addr} {n c x:Nat} {row:Option Nat} (h:NumW w A n c x) (hg:w.grownBy w' row) (hne:0 < n→∀b o,A=some ⟨b,o,none⟩→row≠some b):NumW w' A n c x:=by
 obtain ⟨ds,h1,ht,h3,h4,hv⟩:=h.ex;refine ⟨ds,⟨h1.len,h1.dig,h1.big,fun hn=> ?_⟩,ht,h3,h4,hv⟩;obtain ⟨b,o,e,hb,hc⟩:=h1.at_ hn;refine ⟨b,o,e,Nat.lt_of_lt_of_le hb hg.size,fun j hj=> ?_⟩;rw [World.cell?_of_block (a:=⟨b,o+j,none⟩) (hg.block b hb (fun e2=>hne hn b o e e2.symm))];exact hc j hj
theorem NumW.word {w:World} {A:Option Addr} {n c x:Nat} (h:NumW w A n c x) (hx:x < B64) (h0:0 < x):n=1∧∃b o,A=some ⟨b,o,none⟩∧b < w.heap.size∧w.cell? ⟨b,o,none⟩=some (.int .u64 (x:Int)):=by
 have hz:=h.zero;obtain ⟨ds,h1,ht,_,_,hv⟩:=h.ex
 have hn:n=1:=by
  rcases Nat.lt_or_ge 1 ds.length with e|e
  ·exfalso;have h3:=Pos.nv_lt_of_len (l:=[x]) (m:=ds) ja6 (fun y hy=>by rw [List.mem_singleton] at hy;subst hy;exact hx) ht (by simpa using e);rw [hv,Pos.nv_one] at h3;omega
  ·rw [h1.len] at e;omega
 subst hn;obtain ⟨b,o,rfl,hb,hc⟩:=h1.at_ (by omega);refine ⟨rfl,b,o,rfl,hb, ?_⟩;have hk:=hc 0 (by omega)
 obtain ⟨y,rfl⟩:∃y,ds=[y]:=by
  have hl:=h1.len
  match ds,hl with
  | [y],_=>exact ⟨y,rfl⟩
 rw [Pos.nv_one] at hv;subst hv;exact hk
end Go.Proofs.YtfagcpcikjlboaaGreatDoor
