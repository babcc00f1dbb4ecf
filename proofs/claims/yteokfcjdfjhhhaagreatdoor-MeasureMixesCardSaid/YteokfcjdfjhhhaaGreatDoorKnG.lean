/- Parts. -/
import Derived.Test.YteokfcjdfjhhhaaGreatDoorKfG
set_option linter.all false
set_option maxRecDepth 100000
set_option maxHeartbeats 8000000
namespace Go.Proofs.YteokfcjdfjhhhaaGreatDoor
open Go Go.RowKit

section
variable {w:World} {l:List UInt8} {x:Nat} {z:Int}
theorem jbY (hd:jcJ l) (h0:0 < l.length) (hl:l.length≤45000) (hx:Dig.val l=x):Calls Tryz.prog 134 #[bs l] w (RzP (x:Int) (l.length+1) w):=by
 obtain ⟨c,hc⟩:∃c,l.getD 0 0=c:=⟨_,rfl⟩;have q0:=jbb h0 hc;have hcd:=jgX (hd c (by rw [←hc,List.getD_eq_getElem?_getD,List.getElem?_eq_getElem h0];exact List.getElem_mem h0));have q1:(((c.toNat:Nat):Int)==45)=false:=by rw [beq_eq_false_iff_ne];omega
 have q2:decide (0 < l.length)=true:=by rw [decide_eq_true_iff];omega
 have HX:=qh (And.intro hx (And.intro hd hl));obtain ⟨z,hz⟩:∃z,(x:Int)=z:=⟨_,rfl⟩;have HZ:=qh (show (if false=true then -((x:Nat):Int) else ((x:Nat):Int))=z by simpa using hz);rw [hz];clear hx hd hl hcd hc hz;go_enter Tryz.func134,Tryz.ntmps134;go_wp2;clear q0 q1 q2 h0;obtain ⟨W,hW⟩:∃W,w.alloc (.cells #[.bool false, .slice none 0 0] 125)=W:=⟨_,rfl⟩;have sW:W.heap.size=w.heap.size+1:=by rw [←hW];simp
 have bW:Below w.heap.size w W:=by rw [←hW];exact bi
 have HBX:=qh (show Blk W w.heap.size 125 #[.bool false, .slice none 0 0] from by rw [←hW];exact Blk.new w _ _);simp only [hW];have HW:=qh (And.intro sW bW);clear hW sW bW
 go_loopw [0,4] (fun u v wr=>∃(r:List UInt8) (ds:List Nat),u=bs r∧jcJ r∧ds.length*9+r.length=l.length∧Below W.heap.size W wr∧jcj wr W.heap.size v ds.length (iz ds)∧Pos.Dig B9 ds∧Pos.nv B9 ds+B9^ds.length*Dig.val r=x) (fun u _ _=>match u with | .string b=>b.size | _=>0)
 case atStart=>exact ⟨l,[],rfl,HX.out.2.1,by simp,bi,World.ownsRow_nil _ _ _ _,Pos.Dig.nil,by rw [←HX.out.1];simp [Pos.nv]⟩
 case round=>
  obtain ⟨r,ds,rfl,hr,hlen,hb,how,hdg,hv⟩:=hrel;have _:=bm hb;have HOW:=qh how;have HDG:=qh (And.intro hdg (And.intro hr hlen));have hrl:r.length≤45000:=by have:=HX.out.2.2;omega
  have hdl:ds.length≤45000:=by have:=HX.out.2.2;omega
  by_cases h9:9 < r.length
  ·have p0:decide ((9:Int) < (r.length:Int))=true:=by rw [decide_eq_true_iff];omega
   obtain ⟨k,hk⟩:∃k,k+9=r.length:=⟨r.length - 9,by omega⟩;have m1:wrap64 ((r.length:Int) - 9)=(k:Int):=by unfold wrap64;omega
   have q4:=fun W=>jbr (l:=r) (k:=k) Tryz.underlying9 (by omega) W
   have q5:=fun W=>jdk (l:=r) (k:=k) Tryz.underlying9 (by omega) W
   have hvn:=jlr (ds:=ds) hk;have HVL:=qh (fun W=>jbl (w:=W) (jdH hr k) (by rw [List.length_drop];omega));have hd9:Dig.val (r.drop k) < B9:=jgK (jdH hr k) (by rw [List.length_drop];omega);obtain ⟨y,hy⟩:∃y,Dig.val (r.drop k)=y:=⟨_,rfl⟩;rw [hy] at hvn HVL hd9;have HN:=qh (And.intro (show Pos.nv B9 (ds++[y])+B9^(ds++[y]).length*Dig.val (r.take k)=x by rw [hvn];exact hv) (And.intro (hdg.snoc hd9) (And.intro hk (And.intro hrl hdl))));clear hr hlen how hdg hv hvn hd9 hy hk h9 hrl hdl;go_wp2_with (first|(go_at_call 136;(with_reducible refine mo0 (HVL.out _) fun w1 hb1 hc1 hf1 _=> ?_))|(at_builtin;refine jao (v:=u4) (x:=(y:Int)) rfl _ _ rfl rfl rfl rfl (HOW.out.below bi) (jbo ds) (by have:=HN.out.2.2.2.2;omega) (by have:=hb.size;have:=hb1.size;simp;omega) (by simp) ?_;intro g5 c5 w5 ho5 hc5 hg5;clear hc5))
   have hk':=HN.out.2.2.1;refine ⟨⟨r.take k,ds++[y],rfl,jh5 HDG.out.2.1 k,by have:=HDG.out.2.2;rw [List.length_append,List.length_take,List.length_singleton];omega,(ja4 (ja1 hb hb1) _).trans (ja8 (base:=W.heap.size) hg5 (by have:=hb.size;have:=hb1.size;simp;omega) HOW.out.ge),by rw [List.length_append,List.length_singleton,←jc5];exact ho5,HN.out.2.1,HN.out.1⟩,by simp [ByteArray.size];omega⟩
  ·have p0:decide ((9:Int) < (r.length:Int))=false:=by rw [decide_eq_false_iff_not];omega
   have HVL:=qh (fun W=>jbl (w:=W) hr (by omega));have hd9:Dig.val r < B9:=jgK hr (by omega);obtain ⟨y,hy⟩:∃y,Dig.val r=y:=⟨_,rfl⟩;rw [hy] at hv HVL hd9;have HN:=qh (And.intro (show Pos.nv B9 (ds++[y])=x by rw [Pos.nv_snoc];exact hv) (And.intro (hdg.snoc hd9) (And.intro hdl (show ds.length+1≤l.length+1 by omega))));clear hr hlen how hdg hv hd9 hy h9 hrl hdl;go_wp2_with (first|(go_at_call 136;(with_reducible refine mo0 (HVL.out _) fun w1 hb1 hc1 hf1 _=> ?_))|(at_builtin;refine jao (v:=u4) (x:=(y:Int)) rfl _ _ rfl rfl rfl rfl (HOW.out.below bi) (jbo ds) (by have:=HN.out.2.2.1;omega) (by have:=hb.size;have:=hb1.size;simp;omega) (by simp) ?_;intro g5 c5 w5 ho5 hc5 hg5;clear hc5;have hb5:=(ja4 (ja1 hb hb1) _).trans (ja8 (base:=W.heap.size) hg5 (by have:=hb.size;have:=hb1.size;simp;omega) HOW.out.ge);obtain ⟨A5,d5,e5,hdv,hn5,hx5⟩:=jcj.dv (ds:=ds++[y]) (by rw [←jc5];exact ho5) (by simp) HN.out.2.1 (by have:=HN.out.2.2.1;omega);cases e5;have HDV:=qh (And.intro hdv (And.intro hn5 hx5));clear hdv hn5 hx5 ho5 hg5)|(go_at_call 140;(with_reducible refine (jb5 (g:=false) (z:=z) HDV.out.1 HDV.out.2.1 HDV.out.2.2 (by rw [HN.out.1];simpa using HZ.out)).mono ?_);rintro e6 w6 ⟨k6,rfl,h61,h62,h63,h64,hb6⟩;have _:=bm hb6;have hbW:=ja1 hb5 hb6;have HB6:=HBX.out.below hbW;have k0:=HB6.cell 0;have k1:=HB6.cell 1;have kf:=HB6.frozen;(simp only [List.getElem?_toArray,List.getElem?_cons_zero,List.getElem?_cons_succ] at k0 k1);have H6:=qh (And.intro h61 (And.intro h62 (And.intro h63 h64)));clear h61 h62 h63 h64))
   have hbF:=ja1 HW.out.2 hbW;exact bodyPost_ret (v:= .agg #[.bool (decide (z < 0)), .slice (some ⟨g5,0,none⟩) k6 c5]) (by simp [results,Tryz.results134,go_sem,k0,k1]) rfl (je1 H6.out.1 H6.out.2.1 H6.out.2.2.1 HDV.out.2.1 HDV.out.2.2 (by have:=HN.out.2.2.2;have:=H6.out.2.2.2;omega) H6.out.2.2.2 HB6 _ _ (bq (by with_reducible repeat' first|assumption|constructor|go_size)))
theorem jlF (hd:jcJ l) (h0:0 < l.length) (hl:l.length≤45000) (hx:Dig.val l=x):Calls Tryz.prog 134 #[bs (45::l)] w (RzP (-(x:Int)) (l.length+1) w):=by
 obtain ⟨m,hm⟩:∃m,45::l=m:=⟨_,rfl⟩;have hll:m.length=l.length+1:=by rw [←hm];simp
 have q1:=jbb (l:=m) (i:=0) (c:=45) (by omega) (by rw [←hm];rfl);have q2:decide (0 < m.length)=true:=by rw [decide_eq_true_iff];omega
 have q3:(((45:UInt8).toNat:Int)==45)=true:=rfl;have q9:m.tail=l:=by rw [←hm];rfl
 have q10:(⟨m.toArray⟩:ByteArray).extract 1 m.length=⟨l.toArray⟩:=by rw [jaJ,←hm];rfl
 have q11:0 < m.length:=by omega
 have HX:=qh (And.intro hx (And.intro hd hl));obtain ⟨z,hz⟩:∃z, -(x:Int)=z:=⟨_,rfl⟩;have HZ:=qh (show (if true=true then -((x:Nat):Int) else ((x:Nat):Int))=z by simpa using hz);rw [hz,hm];clear hx hd hl hz hm hll;go_enter Tryz.func134,Tryz.ntmps134;go_wp2;clear q1 q2 q3 q9 q10 q11 h0;obtain ⟨W,hW⟩:∃W,w.alloc (.cells #[.bool false, .slice none 0 0] 125)=W:=⟨_,rfl⟩;have sW:W.heap.size=w.heap.size+1:=by rw [←hW];simp
 have bW:Below w.heap.size w W:=by rw [←hW];exact bi
 have HBX:=qh (show Blk W w.heap.size 125 #[.bool false, .slice none 0 0] from by rw [←hW];exact Blk.new w _ _);simp only [hW];have HW:=qh (And.intro sW bW);clear hW sW bW
 go_loopw [0,4] (fun u v wr=>∃(r:List UInt8) (ds:List Nat),u=bs r∧jcJ r∧ds.length*9+r.length=l.length∧Below W.heap.size W wr∧jcj wr W.heap.size v ds.length (iz ds)∧Pos.Dig B9 ds∧Pos.nv B9 ds+B9^ds.length*Dig.val r=x) (fun u _ _=>match u with | .string b=>b.size | _=>0)
 case atStart=>exact ⟨l,[],rfl,HX.out.2.1,by simp,bi,World.ownsRow_nil _ _ _ _,Pos.Dig.nil,by rw [←HX.out.1];simp [Pos.nv]⟩
 case round=>
  obtain ⟨r,ds,rfl,hr,hlen,hb,how,hdg,hv⟩:=hrel;have _:=bm hb;have HOW:=qh how;have HDG:=qh (And.intro hdg (And.intro hr hlen));have hrl:r.length≤45000:=by have:=HX.out.2.2;omega
  have hdl:ds.length≤45000:=by have:=HX.out.2.2;omega
  by_cases h9:9 < r.length
  ·have p0:decide ((9:Int) < (r.length:Int))=true:=by rw [decide_eq_true_iff];omega
   obtain ⟨k,hk⟩:∃k,k+9=r.length:=⟨r.length - 9,by omega⟩;have m1:wrap64 ((r.length:Int) - 9)=(k:Int):=by unfold wrap64;omega
   have q4:=fun W=>jbr (l:=r) (k:=k) Tryz.underlying9 (by omega) W
   have q5:=fun W=>jdk (l:=r) (k:=k) Tryz.underlying9 (by omega) W
   have hvn:=jlr (ds:=ds) hk;have HVL:=qh (fun W=>jbl (w:=W) (jdH hr k) (by rw [List.length_drop];omega));have hd9:Dig.val (r.drop k) < B9:=jgK (jdH hr k) (by rw [List.length_drop];omega);obtain ⟨y,hy⟩:∃y,Dig.val (r.drop k)=y:=⟨_,rfl⟩;rw [hy] at hvn HVL hd9;have HN:=qh (And.intro (show Pos.nv B9 (ds++[y])+B9^(ds++[y]).length*Dig.val (r.take k)=x by rw [hvn];exact hv) (And.intro (hdg.snoc hd9) (And.intro hk (And.intro hrl hdl))));clear hr hlen how hdg hv hvn hd9 hy hk h9 hrl hdl;go_wp2_with (first|(go_at_call 136;(with_reducible refine mo0 (HVL.out _) fun w1 hb1 hc1 hf1 _=> ?_))|(at_builtin;refine jao (v:=u4) (x:=(y:Int)) rfl _ _ rfl rfl rfl rfl (HOW.out.below bi) (jbo ds) (by have:=HN.out.2.2.2.2;omega) (by have:=hb.size;have:=hb1.size;simp;omega) (by simp) ?_;intro g5 c5 w5 ho5 hc5 hg5;clear hc5))
   have hk':=HN.out.2.2.1;refine ⟨⟨r.take k,ds++[y],rfl,jh5 HDG.out.2.1 k,by have:=HDG.out.2.2;rw [List.length_append,List.length_take,List.length_singleton];omega,(ja4 (ja1 hb hb1) _).trans (ja8 (base:=W.heap.size) hg5 (by have:=hb.size;have:=hb1.size;simp;omega) HOW.out.ge),by rw [List.length_append,List.length_singleton,←jc5];exact ho5,HN.out.2.1,HN.out.1⟩,by simp [ByteArray.size];omega⟩
  ·have p0:decide ((9:Int) < (r.length:Int))=false:=by rw [decide_eq_false_iff_not];omega
   have HVL:=qh (fun W=>jbl (w:=W) hr (by omega));have hd9:Dig.val r < B9:=jgK hr (by omega);obtain ⟨y,hy⟩:∃y,Dig.val r=y:=⟨_,rfl⟩;rw [hy] at hv HVL hd9;have HN:=qh (And.intro (show Pos.nv B9 (ds++[y])=x by rw [Pos.nv_snoc];exact hv) (And.intro (hdg.snoc hd9) (And.intro hdl (show ds.length+1≤l.length+1 by omega))));clear hr hlen how hdg hv hd9 hy h9 hrl hdl;go_wp2_with (first|(go_at_call 136;(with_reducible refine mo0 (HVL.out _) fun w1 hb1 hc1 hf1 _=> ?_))|(at_builtin;refine jao (v:=u4) (x:=(y:Int)) rfl _ _ rfl rfl rfl rfl (HOW.out.below bi) (jbo ds) (by have:=HN.out.2.2.1;omega) (by have:=hb.size;have:=hb1.size;simp;omega) (by simp) ?_;intro g5 c5 w5 ho5 hc5 hg5;clear hc5;have hb5:=(ja4 (ja1 hb hb1) _).trans (ja8 (base:=W.heap.size) hg5 (by have:=hb.size;have:=hb1.size;simp;omega) HOW.out.ge);obtain ⟨A5,d5,e5,hdv,hn5,hx5⟩:=jcj.dv (ds:=ds++[y]) (by rw [←jc5];exact ho5) (by simp) HN.out.2.1 (by have:=HN.out.2.2.1;omega);cases e5;have HDV:=qh (And.intro hdv (And.intro hn5 hx5));clear hdv hn5 hx5 ho5 hg5)|(go_at_call 140;(with_reducible refine (jb5 (g:=true) (z:=z) HDV.out.1 HDV.out.2.1 HDV.out.2.2 (by rw [HN.out.1];simpa using HZ.out)).mono ?_);rintro e6 w6 ⟨k6,rfl,h61,h62,h63,h64,hb6⟩;have _:=bm hb6;have hbW:=ja1 hb5 hb6;have HB6:=HBX.out.below hbW;have k0:=HB6.cell 0;have k1:=HB6.cell 1;have kf:=HB6.frozen;(simp only [List.getElem?_toArray,List.getElem?_cons_zero,List.getElem?_cons_succ] at k0 k1);have H6:=qh (And.intro h61 (And.intro h62 (And.intro h63 h64)));clear h61 h62 h63 h64))
   have hbF:=ja1 HW.out.2 hbW;exact bodyPost_ret (v:= .agg #[.bool (decide (z < 0)), .slice (some ⟨g5,0,none⟩) k6 c5]) (by simp [results,Tryz.results134,go_sem,k0,k1]) rfl (je1 H6.out.1 H6.out.2.1 H6.out.2.2.1 HDV.out.2.1 HDV.out.2.2 (by have:=HN.out.2.2.2;have:=H6.out.2.2.2;omega) H6.out.2.2.2 HB6 _ _ (bq (by with_reducible repeat' first|assumption|constructor|go_size)))
end
section
variable {w:World} {l a b:List UInt8} {k L M:Nat} {x y:Int}
theorem Rz.far4 {w:World} {u:Value} {z:Int} {L:Nat} {B C:Nat} {T S:TypeId} (h:Rz w u z L) (hB:Blk w B T #[.bool false, .slice none 0 0]) (hC:Blk w C S #[.bool false, .slice none 0 0]) (p q r s:Value):
  Rz ((((w.setCell ⟨B,0,none⟩ p).setCell ⟨B,1,none⟩ q).setCell ⟨C,0,none⟩ r).setCell ⟨C,1,none⟩ s) u z L:=by
 obtain ⟨A,n,c,ds,rfl,h1,h2⟩:=h;obtain ⟨f0,f1,f01⟩:=jah hB;obtain ⟨f2,f3,f23⟩:=jah hC;have o0:=h1.off f0 f1 (fun _ _ e=>by cases e) f01;have o1:=h1.off f2 f3 (fun _ _ e=>by cases e) f23;exact ⟨A,n,c,ds,rfl,(((h1.far2 (p:=⟨B,0,none⟩) o0 _).far2 (p:=⟨B,1,none⟩) o0 _).far2 (p:=⟨C,0,none⟩) o1 _).far2 (p:=⟨C,1,none⟩) o1 _,h2⟩
def Pz (x y:Int) (L M:Nat) (w:World) (e:Ending) (w':World):Prop:=∃u v,e= .returned (.tuple #[u,v])∧Rz w' u x L∧Rz w' v y M∧Below w.heap.size w w'
theorem jf2 (hk:sl l=k) (hkl:k < l.length) (hl:l.length≤90010) (ha:l.take k=a) (hb:l.drop (k+1)=b) (HA:∀W,Calls Tryz.prog 134 #[bs a] W (RzP x L W)) (HB:∀W,Calls Tryz.prog 134 #[bs b] W (RzP y M W)):
  Calls Tryz.prog 90 #[bs l] w (Pz x y L M w):=by
 have HS:=qh (fun W=>by have:=jaW (w:=W) (l:=l) (by omega);rwa [hk] at this);have HA:=qh HA;have HB:=qh HB;have q6:=fun W=>jdk (l:=l) (k:=k) Tryz.underlying9 (by omega) W
 rw [ha] at q6;have q8:=fun W=>jbr (l:=l) (k:=k+1) Tryz.underlying9 (by omega) W
 rw [hb] at q8;have q1:((k:Int)==(l.length:Int))=false:=by rw [beq_eq_false_iff_ne];omega
 have q2:(k==l.length)=false:=by rw [beq_eq_false_iff_ne];omega
 have q9:IntKind.i64.wrap ((k:Int)+1)=(k:Int)+1:=k64 (by omega);have p1:(0:Int)≤(k:Int)+1:=by omega
 have p2:(k:Int)+1≤(l.length:Int):=by omega
 have p3:(⟨l.toArray⟩:ByteArray).extract (k+1) l.length=⟨b.toArray⟩:=by rw [jaJ,hb]
 clear hk hkl hl ha hb;go_enter Tryz.func90,Tryz.ntmps90;go_upto_region 5 with (go_at_call 88;(with_reducible refine mo0 (HS.out _) fun w1 hb1 hc1 hf1 _=> ?_))
 have sW:w.heap.size+1 < w1.heap.size:=by have:=hb1.size;simp at this;omega
 have bW:Below w.heap.size w w1:=bi;have HB0:=qh (show Blk w1 w.heap.size 125 #[.bool false, .slice none 0 0] from ((Blk.new w 125 #[.bool false, .slice none 0 0]).below (ja4 (Below.refl _ _) _)).below hb1)
 have HB1:=qh (show Blk w1 (w.heap.size+1) 125 #[.bool false, .slice none 0 0] from by
  have:=(Blk.new (w.alloc (.cells #[.bool false, .slice none 0 0] 125)) 125 #[.bool false, .slice none 0 0]).below hb1
  simpa using this)
 clear hc1 hf1 hb1;refine ja3 (fun w'=>Below w.heap.size w w') [] (by kernel_rfl) ?_;refine tb 0 (bs l) [] rfl (by kernel_rfl) pk rfl (by intros;go_simp) (bD bW) ?_;simp only [ppq];refine tb 1 (.int .i64 (k:Int)) [] rfl (by kernel_rfl) pk rfl (by intros;go_simp) (bD bW) ?_;simp only [ppq];refine tb 2 (bs a) [] rfl (by kernel_rfl) pk rfl (by intros;go_simp) (bD bW) ?_;simp only [ppq];refine tb 4 (bs l) [] rfl (by kernel_rfl) pk rfl (by intros;go_simp) (bD bW) ?_;simp only [ppq];refine tb 5 (.int .i64 (k:Int)) [] rfl (by kernel_rfl) pk rfl (by intros;go_simp) (bD bW) ?_;simp only [ppq];refine tb 6 (.int .i64 ((k:Int)+1)) [] rfl (by kernel_rfl) pk rfl (by intros;go_simp) (bD bW) ?_;simp only [ppq];refine tb 7 (bs b) [] rfl (by kernel_rfl) pk rfl (by intros;go_simp) (bD bW) ?_;simp only [ppq];refine rd1 3 (by kernel_rfl) rfl (fun K hK=> ?_);go_simp;go_wp2_with (go_at_call 134;(with_reducible refine (HA.out _).mono ?_);rintro e2 w2 ⟨r2,rfl,⟨A,n,c,ds,rfl,x1,x2⟩,hb2⟩;have _:=bm hb2;have H2:=qh (And.intro x1 x2);clear x1 x2)
 have sS2:=qh (bst (bD bW) hb2);refine hK.out _ _ (fun _=>sS2.out) ?_;clear hK K;refine rd1 8 (by kernel_rfl) rfl (fun K hK=> ?_);go_simp;go_wp2_with (go_at_call 134;(with_reducible refine (HB.out _).mono ?_);rintro e3 w3 ⟨r3,rfl,⟨B,m,d,es,rfl,x1,x2⟩,hb3⟩;have _:=bm hb3;have H3:=qh (And.intro x1 x2);clear x1 x2)
 have sS3:=qh (bst sS2.out hb3);refine hK.out _ _ (fun _=>sS3.out) ?_;clear hK K;have hb13:=ja1 hb2 hb3;have HC0:=(HB0.out.below (bD (Below.refl _ _))).below hb13;have HC1:=(HB1.out.below (bD (Below.refl _ _))).below hb13;obtain ⟨k0,k1, -⟩:=jah HC0;obtain ⟨k2,k3, -⟩:=jah HC1;have kf0:=HC0.frozen;have kf1:=HC1.frozen;refine rd1 9 (by kernel_rfl) rfl (fun K hK=> ?_);go_simp;refine hK.out _ _ (fun _=>bi) ?_;clear hK K;refine rd1 10 (by kernel_rfl) rfl (fun K hK=> ?_);go_simp;refine hK.out _ _ (fun _=>bi) ?_;clear hK K;refine ja2 (by kernel_rfl) ?_ _;obtain ⟨s,hs⟩:∃s,decide (x < 0)=s:=⟨_,rfl⟩;obtain ⟨t,ht⟩:∃s,decide (y < 0)=s:=⟨_,rfl⟩;have R2:=qh (show Rz w3 (.agg #[.bool s, .slice A n c]) x L from ⟨A,n,c,ds,by rw [hs],H2.out.1.below hb3,H2.out.2⟩);have R3:=qh (show Rz w3 (.agg #[.bool t, .slice B m d]) y M from ⟨B,m,d,es,by rw [ht],H3.out⟩);rw [hs,ht];go_wp2;exact bodyPost_ret (v:= .tuple #[.agg #[.bool s, .slice A n c], .agg #[.bool t, .slice B m d]]) (by simp [results,Tryz.results90,go_sem,k0,k1,k2,k3]) rfl ⟨_,_,rfl,R2.out.far4 HC0 HC1 _ _ _ _,R3.out.far4 HC0 HC1 _ _ _ _,bi⟩
theorem RzP.at {z:Int} {L:Nat} {w w':World} {e:Ending} (h:RzP z L w e w') {s:Bool} (hs:decide (z < 0)=s):∃A n c,e= .returned (.agg #[.bool s, .slice A n c])∧Rz w' (.agg #[.bool s, .slice A n c]) z L∧Below w.heap.size w w':=by
 obtain ⟨v,rfl,⟨A,n,c,ds,rfl,h1,h2⟩,hb⟩:=h;rw [hs];exact ⟨A,n,c,rfl,⟨A,n,c,ds,by rw [hs],h1,h2⟩,hb⟩
theorem jkN (hk:sl l=l.length) (hl:l.length≤90010) (HA:∀W,Calls Tryz.prog 134 #[bs l] W (RzP x L W)):
  Calls Tryz.prog 90 #[bs l] w (Pz x 1 L 3 w):=by
 have HS:=qh (fun W=>by have:=jaW (w:=W) (l:=l) (by omega);rwa [hk] at this);obtain ⟨s,hs⟩:∃s,decide (x < 0)=s:=⟨_,rfl⟩;have HA:=qh (fun W=>(HA W).mono fun e w' h=>h.at hs);have HB:=qh (fun W=>(show Calls Tryz.prog 106 #[.int .i64 1] W (RzP 1 3 W) from jgZ (w:=W) (N:=1) (by omega)).mono fun e w' h=>h.at (s:=false) rfl);have q1:((l.length:Int)==(l.length:Int))=true:=by simp
 have q2:(l.length==l.length)=true:=by simp
 clear hk hl hs;go_enter Tryz.func90,Tryz.ntmps90;go_upto_region 4 with (go_at_call 88;(with_reducible refine mo0 (HS.out _) fun w1 hb1 hc1 hf1 _=> ?_))
 have sW:w.heap.size+1 < w1.heap.size:=by have:=hb1.size;simp at this;omega
 have bW:Below w.heap.size w w1:=bi;have HB0:=qh (show Blk w1 w.heap.size 125 #[.bool false, .slice none 0 0] from ((Blk.new w 125 #[.bool false, .slice none 0 0]).below (ja4 (Below.refl _ _) _)).below hb1)
 have HB1:=qh (show Blk w1 (w.heap.size+1) 125 #[.bool false, .slice none 0 0] from by
  have:=(Blk.new (w.alloc (.cells #[.bool false, .slice none 0 0] 125)) 125 #[.bool false, .slice none 0 0]).below hb1
  simpa using this)
 clear hc1 hf1 hb1;go_wp2_with first|(go_at_call 134;(with_reducible refine (HA.out _).mono ?_);rintro e2 w2 ⟨A,n,c,rfl,x1,hb2⟩;have _:=bm hb2;have H2:=qh x1;clear x1)|(go_at_call 106;(with_reducible refine (HB.out _).mono ?_);rintro e3 w3 ⟨B,m,d,rfl,x1,hb3⟩;have _:=bm hb3;have H3:=qh x1;clear x1;have hb13:=ja1 hb2 hb3;have HC0:=HB0.out.below hb13;have HC1:=HB1.out.below hb13;obtain ⟨k0,k1, -⟩:=jah HC0;obtain ⟨k2,k3, -⟩:=jah HC1;have kf0:=HC0.frozen;have kf1:=HC1.frozen)
 exact bodyPost_ret (v:= .tuple #[.agg #[.bool s, .slice A n c], .agg #[.bool false, .slice B m d]]) (by simp [results,Tryz.results90,go_sem,k0,k1,k2,k3]) rfl ⟨_,_,rfl,(H2.out.below hb3).far4 HC0 HC1 _ _ _ _,H3.out.far4 HC0 HC1 _ _ _ _,bi⟩
end

structure Dz (k:Nat) (x:Rat):Prop where
 num:x.num.natAbs < 10^k
 den:x.den < 10^k
theorem jbU {k m:Nat} (h:k≤m):10^k≤10^m:=Nat.pow_le_pow_right (by omega) h
theorem Dz.mono {k m:Nat} {x:Rat} (h:Dz k x) (hk:k≤m):Dz m x:=⟨Nat.lt_of_lt_of_le h.num (jbU hk),Nat.lt_of_lt_of_le h.den (jbU hk)⟩
theorem Dz.neg {k:Nat} {x:Rat} (h:Dz k x):Dz k (-x):=⟨by rw [Rat.neg_num,Int.natAbs_neg];exact h.num,by rw [Rat.neg_den];exact h.den⟩
theorem Sm.sz {x:Rat} (h:Sm x):Dz 9 x:=⟨h.num,h.den⟩
theorem Dz.sm {x:Rat} (h:Dz 9 x):Sm x:=⟨h.num,h.den⟩
theorem ji0 {a:Int} {d:Nat} (hd:0 < d):(Rat.divInt a d).num.natAbs≤a.natAbs∧(Rat.divInt a d).den≤d:=by
 obtain ⟨h0,h1,h2⟩:=jeH (a:=a) (d:=d) hd rfl;constructor
 ·rw [←h1,Int.natAbs_tdiv];exact Nat.div_le_self _ _
 ·have h3:(d:Int).tdiv (Nat.gcd a.natAbs d:Int)=((d / Nat.gcd a.natAbs d:Nat):Int):=rfl;rw [h3] at h2;have:d / Nat.gcd a.natAbs d=(Rat.divInt a d).den:=by omega
  rw [←this];exact Nat.div_le_self _ _
theorem jdx {a:Int} {d k:Nat} (hd:0 < d) (h1:a.natAbs < 10^k) (h2:d < 10^k):Dz k (Rat.divInt a d):=
 ⟨Nat.lt_of_le_of_lt (ji0 hd).1 h1,Nat.lt_of_le_of_lt (ji0 hd).2 h2⟩
theorem jcr {a b k m:Nat} (ha:a < 10^k) (hb:b < 10^m):a*b < 10^(k+m):=by
 rw [Nat.pow_add];exact Nat.mul_lt_mul'' ha hb
theorem Dz.add {k m:Nat} {x y:Rat} (hx:Dz k x) (hy:Dz m y):Dz (k+m+1) (x+y):=by
 rw [Rq.add_eq];have h3:=jcr hx.den hy.den;have hd:=Nat.mul_pos x.den_pos y.den_pos;have e:((x.den:Int)*(y.den:Int))=((x.den*y.den:Nat):Int):=by rw [Int.natCast_mul]
 rw [e];refine jdx hd ?_ (Nat.lt_of_lt_of_le h3 (jbU (by omega)));have h1:=jcr hx.num hy.den;have h2:=jcr hy.num hx.den
 have h4:(x.num*(y.den:Int)+y.num*(x.den:Int)).natAbs≤x.num.natAbs*y.den+y.num.natAbs*x.den:=by
  refine Nat.le_trans (Int.natAbs_add_le _ _) ?_;rw [Int.natAbs_mul,Int.natAbs_mul,Int.natAbs_natCast,Int.natAbs_natCast];exact Nat.le_refl _
 rw [Nat.add_comm m k] at h2;rw [Nat.pow_succ];omega
theorem Dz.mul {k m:Nat} {x y:Rat} (hx:Dz k x) (hy:Dz m y):Dz (k+m) (x*y):=by
 rw [Rq.mul_eq];have hd:=Nat.mul_pos x.den_pos y.den_pos;have e:((x.den:Int)*(y.den:Int))=((x.den*y.den:Nat):Int):=by rw [Int.natCast_mul]
 rw [e];refine jdx hd ?_ (jcr hx.den hy.den);rw [Int.natAbs_mul];exact jcr hx.num hy.num
theorem Dz.sub {k m:Nat} {x y:Rat} (hx:Dz k x) (hy:Dz m y):Dz (k+m+1) (x - y):=by
 rw [Rat.sub_eq_add_neg];exact hx.add hy.neg
theorem jrI {k:Nat} {x:Rat} (h:Dz k x) (hk:0 < k):(uq x).length≤2*k+1:=by
 rw [jey];have h1:=jbf h.num hk;have h2:=jbf h.den hk;split <;> omega
theorem jrr {k:Nat} {x:Rat} (h:Dz k x) (hk:0 < k):(tq x).length≤2*k+2:=by
 have:=jrI h hk;rw [jet];split
 ·simp;omega
 ·omega
def sm9 (x:Rat):Bool:=decide (x.num.natAbs < 1000000000) && decide (x.den < 1000000000)
theorem jeG {x:Rat}:sm9 x=true↔Sm x:=by
 unfold sm9;rw [Bool.and_eq_true,decide_eq_true_iff,decide_eq_true_iff];exact ⟨fun h=>⟨h.1,h.2⟩,fun h=>⟨h.num,h.den⟩⟩
theorem jja {n:Nat} (h:1000000000≤n):9 < (Lib.decDigits n).length:=by
 rcases Nat.lt_or_ge 9 (Lib.decDigits n).length with h1|h1
 ·exact h1
 ·exfalso;have h2:=jf5 (jbI n) h1;rw [Dig.val_digits] at h2;omega
theorem jrA {x:Rat} (h:sm9 x=false):9 < sl (uq x)∨sl (uq x)+10 < (uq x).length:=by
 rw [jlh,jey];unfold sm9 at h;rw [Bool.and_eq_false_iff,decide_eq_false_iff_not,decide_eq_false_iff_not] at h;rcases h with h|h
 ·left;exact jja (by omega)
 ·right
  have h1:=jja (n:=x.den) (by omega);rw [if_neg (by intro e;rw [e] at h;omega)];omega
section
variable {w:World} {m l:List UInt8}
theorem jgb {c:UInt8} {k:Nat} (h0:0 < m.length) (hc:m.getD 0 0=c) (hcc:c≠45) (hs:sl m=k) (hbad:9 < k∨k+10 < m.length) (hl:m.length < 4294967200):
  Calls Tryz.prog 92 #[bs m] w fun e w'=>e= .returned (.tuple #[.int .i64 0, .int .i64 0, .bool false])∧Below w.heap.size w w':=by
 have hle:k≤m.length:=by rw [←hs];exact jgD m
 have HS:=qh (fun W=>by have:=jaW (w:=W) (l:=m) (by omega);rwa [hs] at this);have q1:=jbb h0 hc;have q2:decide (0 < m.length)=true:=by rw [decide_eq_true_iff];omega
 have q3:(((c.toNat:Nat):Int)==45)=false:=by
  rw [beq_eq_false_iff_ne];intro h;exact hcc (UInt8.toNat_inj.1 (by rw [show (45:UInt8).toNat=45 from rfl];omega))
 clear hc hcc;go_enter Tryz.func92,Tryz.ntmps92;by_cases h20:20 < m.length
 ·have q0:decide ((20:Int) < (m.length:Int))=true:=by rw [decide_eq_true_iff];omega
  clear h20 hbad hs hle hl;go_wp2;go_ret3;exact ⟨rfl,bi⟩
 ·have q0:decide ((20:Int) < (m.length:Int))=false:=by rw [decide_eq_false_iff_not];omega
  clear h20;by_cases h9:9 < k
  ·have q4:decide ((9:Int) < (k:Int))=true:=by rw [decide_eq_true_iff];omega
   clear h9 hbad hs;go_wp2_with (go_at_call 88;(with_reducible refine mo0 (HS.out _) fun w1 hb1 hc1 hf1 _=> ?_))
   go_ret3;exact ⟨rfl,bi⟩
  ·have q4:decide ((9:Int) < (k:Int))=false:=by rw [decide_eq_false_iff_not];omega
   have m1:wrap64 ((m.length:Int) - (k:Int))=(m.length:Int) - (k:Int):=by unfold wrap64;omega
   have q5:decide ((10:Int) < (m.length:Int) - (k:Int))=true:=by rw [decide_eq_true_iff];omega
   clear h9 hbad hs;go_wp2_with (go_at_call 88;(with_reducible refine mo0 (HS.out _) fun w1 hb1 hc1 hf1 _=> ?_))
   go_ret3;exact ⟨rfl,bi⟩
theorem jg5 {k:Nat} (hs:sl m=k) (hbad:9 < k∨k+10 < m.length) (hl:m.length < 4294967200):
  Calls Tryz.prog 92 #[bs (45::m)] w fun e w'=>e= .returned (.tuple #[.int .i64 0, .int .i64 0, .bool false])∧Below w.heap.size w w':=by
 have hle:k≤m.length:=by rw [←hs];exact jgD m
 have HS:=qh (fun W=>by have:=jaW (w:=W) (l:=m) (by omega);rwa [hs] at this);obtain ⟨l,hl'⟩:∃l,45::m=l:=⟨_,rfl⟩;have hll:l.length=m.length+1:=by rw [←hl'];simp
 have q1:=jbb (l:=l) (i:=0) (c:=45) (by omega) (by rw [←hl'];rfl);have q2:decide (0 < l.length)=true:=by rw [decide_eq_true_iff];omega
 have q3:(((45:UInt8).toNat:Int)==45)=true:=rfl;have q9:l.tail=m:=by rw [←hl'];rfl
 have q10:(⟨l.toArray⟩:ByteArray).extract 1 l.length=⟨m.toArray⟩:=by rw [jaJ,←hl'];rfl
 have q11:0 < l.length:=by omega
 rw [hl'];go_enter Tryz.func92,Tryz.ntmps92;by_cases h20:20 < l.length
 ·have q0:decide ((20:Int) < (l.length:Int))=true:=by rw [decide_eq_true_iff];omega
  clear h20 hbad hs hle hl hl' hll;go_wp2;go_ret3;exact ⟨rfl,bi⟩
 ·have q0:decide ((20:Int) < (l.length:Int))=false:=by rw [decide_eq_false_iff_not];omega
  clear h20 hl' hll;by_cases h9:9 < k
  ·have q4:decide ((9:Int) < (k:Int))=true:=by rw [decide_eq_true_iff];omega
   clear h9 hbad hs;go_wp2_with (go_at_call 88;(with_reducible refine mo0 (HS.out _) fun w1 hb1 hc1 hf1 _=> ?_))
   go_ret3;exact ⟨rfl,bi⟩
  ·have q4:decide ((9:Int) < (k:Int))=false:=by rw [decide_eq_false_iff_not];omega
   have m1:wrap64 ((m.length:Int) - (k:Int))=(m.length:Int) - (k:Int):=by unfold wrap64;omega
   have q5:decide ((10:Int) < (m.length:Int) - (k:Int))=true:=by rw [decide_eq_true_iff];omega
   clear h9 hbad hs;go_wp2_with (go_at_call 88;(with_reducible refine mo0 (HS.out _) fun w1 hb1 hc1 hf1 _=> ?_))
   go_ret3;exact ⟨rfl,bi⟩
end
theorem jgh {w:World} {x:Rat} {k:Nat} {b:Bool} (hb:sm9 x=b) (hx:Dz k x) (hk:0 < k) (hk2:k≤20000):Calls Tryz.prog 92 #[bs (tq x)] w fun e w'=>∃n d:Int,e= .returned (.tuple #[.int .i64 n, .int .i64 d, .bool b])∧Below w.heap.size w w':=by
 cases b with
 | true=>exact (jdA rfl (jeG.1 hb)).mono fun e w' h=>⟨_,_,h⟩
 | false=>
   have h1:=jrA hb;have h2:=jrI hx hk;rw [jet];split
   ·exact (jg5 rfl h1 (by omega)).mono fun e w' h=>⟨_,_,h⟩
   ·obtain ⟨c,h3,h4,h5⟩:=jcQ x.num.natAbs;refine (jgb (c:=c) ?_ ?_ h4 rfl h1 (by omega)).mono fun e w' h=>⟨_,_,h⟩
    ·rw [jey];omega
    ·unfold uq;rw [List.getD_eq_getElem?_getD,List.getElem?_append_left h5,←List.getD_eq_getElem?_getD];exact h3
theorem jfa {w:World} {x:Rat} {k:Nat} (hx:Dz k x) (hk:0 < k) (hk2:k≤45000):Calls Tryz.prog 90 #[bs (tq x)] w (Pz x.num (x.den:Int) (k+3) (k+3) w):=by
 have l1:=jbf hx.num hk;have l2:=jbf hx.den hk;obtain ⟨c, -, -,p1⟩:=jcQ x.num.natAbs;obtain ⟨d, -, -,p2⟩:=jcQ x.den;have hL:=jrr hx hk
 have HA:∀W,Calls Tryz.prog 134 #[bs (if x.num < 0 then 45::Lib.decDigits x.num.natAbs else Lib.decDigits x.num.natAbs)] W (RzP x.num (k+3) W):=fun W=>by
  split
  ·refine (jlF (jbI _) p1 (by omega) (Dig.val_digits _)).mono fun e w' ⟨v,he,hr,hb⟩=>⟨v,he, ?_,hb⟩
   obtain ⟨A,n,c,ds,h1,h2,h3,h4,h5,h6,h7⟩:=hr;rw [show -((x.num.natAbs:Nat):Int)=x.num by omega] at h1 h4;exact ⟨A,n,c,ds,h1,h2,h3,h4,h5,h6,by omega⟩
  ·refine (jbY (jbI _) p1 (by omega) (Dig.val_digits _)).mono fun e w' ⟨v,he,hr,hb⟩=>⟨v,he, ?_,hb⟩
   obtain ⟨A,n,c,ds,h1,h2,h3,h4,h5,h6,h7⟩:=hr;rw [show ((x.num.natAbs:Nat):Int)=x.num by omega] at h1 h4;exact ⟨A,n,c,ds,h1,h2,h3,h4,h5,h6,by omega⟩
 have hs:∀c∈(if x.num < 0 then 45::Lib.decDigits x.num.natAbs else Lib.decDigits x.num.natAbs),c≠47:=by
  intro c hc;split at hc
  ·rcases List.mem_cons.1 hc with e|e
   ·rw [e];decide
   ·exact jjL (by decide) c e
  ·exact jjL (by decide) c hc
 have ht:tq x=(if x.num < 0 then 45::Lib.decDigits x.num.natAbs else Lib.decDigits x.num.natAbs)++(if x.den=1 then [] else 47::Lib.decDigits x.den):=by
  rw [jet];unfold uq;split <;> rfl
 obtain ⟨u,hu⟩:∃u,(if x.num < 0 then 45::Lib.decDigits x.num.natAbs else Lib.decDigits x.num.natAbs)=u:=⟨_,rfl⟩;rw [hu] at HA hs ht;by_cases h:x.den=1
 ·rw [if_pos h,List.append_nil] at ht;rw [ht] at hL ⊢;refine (jkN (jju hs) (by omega) HA).mono fun e w' ⟨u,v,he,hr,ht,hb⟩=>⟨u,v,he,hr, ?_,hb⟩
  obtain ⟨A,n,c,ds,h1,h2,h3,h4,h5,h6,h7⟩:=ht;rw [h];exact ⟨A,n,c,ds,h1,h2,h3,h4,h5,h6,by omega⟩
 ·rw [if_neg h] at ht;have hul:u.length≤k+1:=by rw [←hu];split <;> (try rw [List.length_cons]) <;> omega
  have hsl:sl (tq x)=u.length:=by rw [ht];exact jjF hs
  refine jf2 (a:=u) (b:=Lib.decDigits x.den) hsl (by rw [ht];simp) (by omega) (by rw [ht,List.take_left]) (by rw [ht,←List.drop_drop,List.drop_left];rfl) HA (fun W=> ?_);refine (jbY (jbI _) p2 (by omega) (Dig.val_digits _)).mono fun e w' ⟨v,he,hr,hb⟩=>⟨v,he, ?_,hb⟩
  obtain ⟨A,n,c,ds,h1,h2,h3,h4,h5,h6,h7⟩:=hr;exact ⟨A,n,c,ds,h1,h2,h3,h4,h5,h6,by omega⟩

theorem jc7 {l:List UInt8} (h:Dig.plain l=true):jcJ l∧0 < l.length:=by
 unfold Dig.plain at h;simp only [Bool.and_eq_true] at h;refine ⟨fun c hc=>List.all_eq_true.1 h.1.2 c hc, ?_⟩;cases l with
 | nil=>simp at h
 | cons a r=>simp
theorem jp7 {gs:List Nat} (d:Pos.Dig B9 gs) (t:Pos.Trim gs) (h:Pos.nv B9 gs=1):gs=[1]:=
 Pos.nv_trim_inj jau d (fun x hx=>by rw [List.mem_singleton] at hx;subst hx;decide) t (by simp [Pos.Trim]) (by rw [h];rfl)
section
variable {w:World}
theorem jk2:Calls Tryz.prog 36 #[bs []] w fun e w'=>e= .returned (.int .i64 1)∧Below w.heap.size w w':=by
 have HS:Hid (∀W,Calls Tryz.prog 88 #[bs []] W fun e w'=>e= .returned (.int .i64 0)∧Below W.heap.size W w'):=qh (fun W=>jaW (w:=W) (l:=[]) (by decide));have HP:=qh (fun W=>jdg (w:=W) (l:=[]) (b:=false) rfl (by decide));have q6:∀W,(Instr.slice 9 (bs []) none (some (.int .i64 0)) none).run Tryz.prog W= .ok (bs []) W:=fun W=>jdk (l:=[]) (k:=0) Tryz.underlying9 (Nat.le_refl _) W
 go_enter Tryz.func36,Tryz.ntmps36;go_wp2_with (first|(go_at_call 88;(with_reducible refine mo0 (HS.out _) fun w1 hb1 hc1 hf1 _=> ?_))|(go_at_call 89;(with_reducible refine mo0 (HP.out _) fun w2 hb2 hc2 hf2 _=> ?_)))
 go_ret;exact ⟨rfl,bi⟩
end
def jhW (g:Bool) (size bot:List UInt8) (is:Bool):Int:=
 if !Dig.plain size || (g && size==[48]) then 1
 else if is && (!Dig.plain bot || (bot==[48]) || (bot==[49])) then 1
 else if decide (600 < size.length) || decide (600 < bot.length) then 4
 else if is && decide (Nat.gcd (Dig.val size) (Dig.val bot)≠1) then 1 else 0
theorem Pz.dv {x y:Nat} {L M N:Nat} {w w':World} {e:Ending} (h:Pz (x:Int) (y:Int) L M w e w') (hL:L≤N) (hM:M≤N):∃A n c ds B m d es,e= .returned (.tuple #[.agg #[.bool false, .slice A n c], .agg #[.bool false, .slice B m d]])∧Dv w' A n ds∧Pos.Trim ds∧Pos.nv B9 ds=x∧Dv w' B m es∧Pos.Trim es∧Pos.nv B9 es=y∧n≤N∧m≤N∧Below w.heap.size w w':=by
 obtain ⟨u,v,rfl,⟨A,n,c,ds,rfl,h1,h2,h3, -, -,h4⟩,⟨B,m,d,es,rfl,k1,k2,k3, -, -,k4⟩,hb⟩:=h;have e1:decide ((x:Int) < 0)=false:=by rw [decide_eq_false_iff_not];omega
 have e2:decide ((y:Int) < 0)=false:=by rw [decide_eq_false_iff_not];omega
 rw [e1,e2];exact ⟨A,n,c,ds,B,m,d,es,rfl,h1,h2,h3,k1,k2,k3,Nat.le_trans h4 hL,Nat.le_trans k4 hM,hb⟩
theorem jj7 {g:Bool} {top size bot:List UInt8} {is:Bool} (ht:(top==[45,48])=(g && size==[48])):jhW g size bot is=jf1 top size bot is:=by
 unfold jhW jf1 jcm;rw [ht];by_cases h:600 < size.length∨600 < bot.length
 ·rw [if_pos h];have e:(decide (600 < size.length) || decide (600 < bot.length))=true:=by simpa using h
  rw [e];cases (!Dig.plain size || (g && size==[48])) <;> cases (is && (!Dig.plain bot || (bot==[48]) || (bot==[49]))) <;> simp
 ·rw [if_neg h];have e:(decide (600 < size.length) || decide (600 < bot.length))=false:=by simpa using h
  rw [e];cases (!Dig.plain size || (g && size==[48])) <;> cases (is && (!Dig.plain bot || (bot==[48]) || (bot==[49]))) <;> simp
theorem jlf {s:List UInt8}:jhW true (s.take (sl s)) (s.drop (sl s+1)) (decide (sl s < s.length))=chk (45::s):=by
 have e:=jp8 (45::s);have e2:sl (45::s)=sl s+1:=by rw [sl,if_neg (by decide)]
 rw [e2,List.take_succ_cons,List.drop_succ_cons,show decide (sl s+1 < (45::s).length)=decide (sl s < s.length) by simp] at e;rw [jfu e (jo1 _)];exact jj7 (top:=45::s.take (sl s)) jq2
theorem jh4 {s:List UInt8} (h:s.head? ≠some 45):jhW false (s.take (sl s)) (s.drop (sl s+1)) (decide (sl s < s.length))=chk s:=by
 have ht:(s.take (sl s)).head? ≠some 45:=by
  cases s with
  | nil=>simp
  | cons a r=>
    rw [sl];split
    ·simp
    ·simpa using h
 rw [jfu (jp8 s) (jmk ht)];refine jj7 ?_;rw [Bool.false_and,beq_eq_false_iff_ne];intro e;rw [e] at ht;exact ht rfl
section
variable {w:World} {l s size bot:List UInt8} {k:Nat}
theorem jiX (hs:l=45::s) (hk:sl s=k) (hsz:s.take k=size) (hbt:s.drop (k+1)=bot) (hl:l.length≤15000):
  Calls Tryz.prog 36 #[bs l] w fun e w'=>e= .returned (.int .i64 (jhW true size bot (decide (k < s.length))))∧Below w.heap.size w w':=by
 have hll:l.length=s.length+1:=by rw [hs];simp
 have q1:=jbb (l:=l) (i:=0) (c:=45) (by omega) (by rw [hs];rfl);have q2:decide (0 < l.length)=true:=by rw [decide_eq_true_iff];omega
 have q3:(((45:UInt8).toNat:Int)==45)=true:=rfl;have q9:l.tail=s:=by rw [hs];rfl
 have q10:(⟨l.toArray⟩:ByteArray).extract 1 l.length=⟨s.toArray⟩:=by rw [jaJ,hs];rfl
 have q11:0 < l.length:=by omega
 have hle:=jgD s;rw [hk] at hle;have hzl:size.length=k:=by rw [←hsz,List.length_take];omega
 have hbl:bot.length=s.length - (k+1):=by rw [←hbt,List.length_drop]
 have HS:=qh (fun W=>by have:=jaW (w:=W) (l:=s) (by omega);rwa [hk] at this);obtain ⟨b1,hb1⟩:∃b,Dig.plain size=b:=⟨_,rfl⟩;obtain ⟨b2,hb2⟩:∃b,Dig.plain bot=b:=⟨_,rfl⟩;have HP:=qh (fun W=>jdg (w:=W) hb1 (by omega));have HB:=qh (fun W=>jdg (w:=W) hb2 (by omega));have q6:=fun W=>jdk (l:=s) (k:=k) Tryz.underlying9 hle W
 rw [hsz] at q6;unfold jhW;rw [hb1,hb2];cases b1
 ·rw [show (!false || (true && size==[48]))=true from rfl,if_pos rfl];clear hs hk hsz hbt hl hll hle hzl hbl hb1 hb2;go_enter Tryz.func36,Tryz.ntmps36;go_wp2_with (first|(go_at_call 88;(with_reducible refine mo0 (HS.out _) fun w1 hb1 hc1 hf1 _=> ?_))|(go_at_call 89;(with_reducible show Calls _ _ #[bs size] _ _);(with_reducible refine mo0 (HP.out _) fun w2 hb2 hc2 hf2 _=> ?_))|(go_at_call 89;(with_reducible show Calls _ _ #[bs bot] _ _);(with_reducible refine mo0 (HB.out _) fun w3 hb3 hc3 hf3 _=> ?_)))
  go_ret;exact ⟨rfl,bi⟩
 ·obtain ⟨hdz,h0z⟩:=jc7 hb1;by_cases hz:(true && size==[48])=true
  ·rw [show (!true || (true && size==[48]))=true by rw [hz];rfl,if_pos rfl];have r0:(size==[48])=true:=by simpa using hz
   clear hs hk hsz hbt hl hll hle hzl hbl hb1 hb2;clear hz hdz h0z;go_enter Tryz.func36,Tryz.ntmps36;go_wp2_with (first|(go_at_call 88;(with_reducible refine mo0 (HS.out _) fun w1 hb1 hc1 hf1 _=> ?_))|(go_at_call 89;(with_reducible show Calls _ _ #[bs size] _ _);(with_reducible refine mo0 (HP.out _) fun w2 hb2 hc2 hf2 _=> ?_))|(go_at_call 89;(with_reducible show Calls _ _ #[bs bot] _ _);(with_reducible refine mo0 (HB.out _) fun w3 hb3 hc3 hf3 _=> ?_)))
   go_ret;exact ⟨rfl,bi⟩
  ·rw [show (!true || (true && size==[48]))=false by simpa using hz,if_neg (by decide)];have r0:(size==[48])=false:=by simpa using hz
   have m2:=jce (i:=k) (by omega);have m4:wrap64 ((s.length:Int) - (k:Int))=(s.length:Int) - (k:Int):=by unfold wrap64;omega
   have m5:wrap64 ((s.length:Int) - (k:Int) - 1)=(s.length:Int) - (k:Int) - 1:=by unfold wrap64;omega
   by_cases his:k < s.length
   ·have r3:decide (k < s.length)=true:=by simpa using his
    rw [r3];have q8:=fun W=>jbr (l:=s) (k:=k+1) Tryz.underlying9 (by omega) W
    rw [hbt] at q8;simp only [←m2] at q8;cases b2
    ·rw [show (true && (!false || (bot==[48]) || (bot==[49])))=true from rfl,if_pos rfl];clear hs hk hsz hbt hl hll hle hzl hbl hb1 hb2;clear hz hdz h0z his m2;go_enter Tryz.func36,Tryz.ntmps36;go_wp2_with (first|(go_at_call 88;(with_reducible refine mo0 (HS.out _) fun w1 hb1 hc1 hf1 _=> ?_))|(go_at_call 89;(with_reducible show Calls _ _ #[bs size] _ _);(with_reducible refine mo0 (HP.out _) fun w2 hb2 hc2 hf2 _=> ?_))|(go_at_call 89;(with_reducible show Calls _ _ #[bs bot] _ _);(with_reducible refine mo0 (HB.out _) fun w3 hb3 hc3 hf3 _=> ?_)))
     go_ret;exact ⟨rfl,bi⟩
    ·by_cases h48:bot=[48]
     ·rw [show (true && (!true || (bot==[48]) || (bot==[49])))=true by rw [h48];rfl,if_pos rfl];have r4:(bot==[48])=true:=by rw [h48];rfl
      clear hs hk hsz hbt hl hll hle hzl hbl hb1 hb2;clear hz hdz h0z his m2 h48;go_enter Tryz.func36,Tryz.ntmps36;go_wp2_with (first|(go_at_call 88;(with_reducible refine mo0 (HS.out _) fun w1 hb1 hc1 hf1 _=> ?_))|(go_at_call 89;(with_reducible show Calls _ _ #[bs size] _ _);(with_reducible refine mo0 (HP.out _) fun w2 hb2 hc2 hf2 _=> ?_))|(go_at_call 89;(with_reducible show Calls _ _ #[bs bot] _ _);(with_reducible refine mo0 (HB.out _) fun w3 hb3 hc3 hf3 _=> ?_)))
      go_ret;exact ⟨rfl,bi⟩
     ·have r4:(bot==[48])=false:=by simpa using h48
      by_cases h49:bot=[49]
      ·rw [show (true && (!true || (bot==[48]) || (bot==[49])))=true by rw [h49];rfl,if_pos rfl];have r5:(bot==[49])=true:=by rw [h49];rfl
       clear hs hk hsz hbt hl hll hle hzl hbl hb1 hb2;clear hz hdz h0z his m2 h48 h49;go_enter Tryz.func36,Tryz.ntmps36;go_wp2_with (first|(go_at_call 88;(with_reducible refine mo0 (HS.out _) fun w1 hb1 hc1 hf1 _=> ?_))|(go_at_call 89;(with_reducible show Calls _ _ #[bs size] _ _);(with_reducible refine mo0 (HP.out _) fun w2 hb2 hc2 hf2 _=> ?_))|(go_at_call 89;(with_reducible show Calls _ _ #[bs bot] _ _);(with_reducible refine mo0 (HB.out _) fun w3 hb3 hc3 hf3 _=> ?_)))
       go_ret;exact ⟨rfl,bi⟩
      ·have r5:(bot==[49])=false:=by simpa using h49
       rw [show (true && (!true || (bot==[48]) || (bot==[49])))=false by rw [r4,r5];rfl,if_neg (by decide),Bool.true_and];by_cases hL1:600 < k
       ·rw [if_pos (by rw [hzl];simp [hL1])];have r1:decide ((600:Int) < (k:Int))=true:=by rw [decide_eq_true_iff];omega
        clear hs hk hsz hbt hl hll hle hzl hbl hb1 hb2;clear hz hdz h0z his m2 h48 h49 hL1;go_enter Tryz.func36,Tryz.ntmps36;go_wp2_with (first|(go_at_call 88;(with_reducible refine mo0 (HS.out _) fun w1 hb1 hc1 hf1 _=> ?_))|(go_at_call 89;(with_reducible show Calls _ _ #[bs size] _ _);(with_reducible refine mo0 (HP.out _) fun w2 hb2 hc2 hf2 _=> ?_))|(go_at_call 89;(with_reducible show Calls _ _ #[bs bot] _ _);(with_reducible refine mo0 (HB.out _) fun w3 hb3 hc3 hf3 _=> ?_)))
        go_ret;exact ⟨rfl,bi⟩
       ·have r1:decide ((600:Int) < (k:Int))=false:=by rw [decide_eq_false_iff_not];omega
        by_cases hL2:600 < bot.length
        ·rw [if_pos (by simp [hL2])];have r2:decide ((600:Int) < (s.length:Int) - (k:Int) - 1)=true:=by rw [decide_eq_true_iff];omega
         clear hs hk hsz hbt hl hll hle hzl hbl hb1 hb2;clear hz hdz h0z his m2 h48 h49 hL1 hL2;go_enter Tryz.func36,Tryz.ntmps36;go_wp2_with (first|(go_at_call 88;(with_reducible refine mo0 (HS.out _) fun w1 hb1 hc1 hf1 _=> ?_))|(go_at_call 89;(with_reducible show Calls _ _ #[bs size] _ _);(with_reducible refine mo0 (HP.out _) fun w2 hb2 hc2 hf2 _=> ?_))|(go_at_call 89;(with_reducible show Calls _ _ #[bs bot] _ _);(with_reducible refine mo0 (HB.out _) fun w3 hb3 hc3 hf3 _=> ?_)))
         go_ret;exact ⟨rfl,bi⟩
        ·rw [if_neg (by rw [hzl];simp [hL1,hL2])];have r2:decide ((600:Int) < (s.length:Int) - (k:Int) - 1)=false:=by rw [decide_eq_false_iff_not];omega
         have hbp:=jc7 hb2;have HPT:=qh (fun W=>(jf2 (w:=W) hk his (by omega) hsz hbt (fun W=>jbY hdz h0z (by omega) rfl) (fun W=>jbY hbp.1 hbp.2 (by omega) rfl)).mono fun e w' h=>h.dv (show size.length+1≤20000 by omega) (show bot.length+1≤20000 by omega));obtain ⟨G,hG⟩:∃G,Nat.gcd (Dig.val size) (Dig.val bot)=G:=⟨_,rfl⟩;rw [show decide (Nat.gcd (Dig.val size) (Dig.val bot)≠1)=decide (G≠1) by simp only [hG]];have HG:=qh hG;obtain ⟨R,hR⟩:∃R:Int,(if decide (G≠1)=true then 1 else 0)=R:=⟨_,rfl⟩;rw [hR];have HR:=qh hR;clear hR;clear hs hk hsz hbt hl hll hle hzl hbl hb1 hb2;clear hz hdz h0z his m2 h48 h49 hbp hG hL1 hL2;go_enter Tryz.func36,Tryz.ntmps36;go_upto_region 14 with (first|(go_at_call 88;(with_reducible refine mo0 (HS.out _) fun w1 hb1 hc1 hf1 _=> ?_))|(go_at_call 89;(with_reducible show Calls _ _ #[bs size] _ _);(with_reducible refine mo0 (HP.out _) fun w2 hb2 hc2 hf2 _=> ?_))|(go_at_call 89;(with_reducible show Calls _ _ #[bs bot] _ _);(with_reducible refine mo0 (HB.out _) fun w3 hb3 hc3 hf3 _=> ?_))|(go_at_call 90;(with_reducible refine (HPT.out _).mono ?_);rintro e4 w4 ⟨A4,n4,c4,ds4,B4,n5,d4,es4,rfl,hd4,ht4,hv4,he4,hu4,hx4,hn4,hm4,hb4⟩;obtain ⟨hc4,hf4,_⟩:=bc0 hb4;have H4:=qh (And.intro hd4 (And.intro ht4 (And.intro hv4 (And.intro he4 (And.intro hu4 hx4)))));have HSM:=qh (And.intro hn4 hm4);clear hn4 hm4 hd4 ht4 hv4 he4 hu4 hx4)|(go_at_call 91;(with_reducible refine (jgA (H4.out.1.below bi) (H4.out.2.2.2.1.below bi) H4.out.2.1 H4.out.2.2.2.2.1 HSM.out.1 HSM.out.2).mono ?_);rintro e5 w5 ⟨G5,k5,d5,gs,rfl,hg5,tg5,hvg,hb5⟩;obtain ⟨hc5,hf5,_⟩:=bc0 hb5;rw [H4.out.2.2.1,H4.out.2.2.2.2.2,HG.out] at hvg;have H5:=qh (And.intro hg5 (And.intro tg5 hvg));clear hg5 tg5 hvg))
         by_cases h1:G=1
         ·subst h1;obtain rfl:=jp7 H5.out.1.dig H5.out.2.1 H5.out.2.2;obtain rfl:k5=1:=H5.out.1.len.symm;obtain ⟨b,o,rfl,hlt,hcell⟩:=H5.out.1.at_ (by omega);have hcl:w5.cell? ⟨b,o,none⟩=some (.int .i64 1):=hcell 0 (by omega);clear hcell hlt;obtain rfl:(0:Int)=R:=HR.out;clear HR;go_wp2;go_ret;exact ⟨rfl,bi⟩
         ·have r6:decide (G≠1)=true:=by simpa using h1
          obtain rfl:(1:Int)=R:=by rw [←HR.out,r6];rfl
          clear HR;by_cases hk5:k5=1
          ·subst hk5
           obtain ⟨y,rfl⟩:∃y,gs=[y]:=by
            have:=H5.out.1.len
            match gs,this with
            | [y],_=>exact ⟨y,rfl⟩
           obtain ⟨b,o,rfl,hlt,hcell⟩:=H5.out.1.at_ (by omega);have hcl:w5.cell? ⟨b,o,none⟩=some (.int .i64 (y:Int)):=hcell 0 (by omega);have hy:y=G:=by have:=H5.out.2.2;rwa [Pos.nv_one] at this
           have r7:((y:Int) != 1)=true:=by rw [bne_iff_ne];omega
           have r8:(y != 1)=true:=by rw [bne_iff_ne];omega
           clear hcell hlt hy h1 r6;go_wp2;go_ret;exact ⟨rfl,bi⟩
          ·have r7:((k5:Int) != 1)=true:=by rw [bne_iff_ne];omega
           have r8:(k5 != 1)=true:=by rw [bne_iff_ne];omega
           clear h1 r6 hk5;go_wp2;go_ret;exact ⟨rfl,bi⟩
   ·have r3:decide (k < s.length)=false:=by simpa using his
    rw [r3,Bool.false_and,if_neg (by decide)];by_cases hL1:600 < k
    ·rw [if_pos (by rw [hzl];simp [hL1])];have r1:decide ((600:Int) < (k:Int))=true:=by rw [decide_eq_true_iff];omega
     clear hs hk hsz hbt hl hll hle hzl hbl hb1 hb2;clear hz hdz h0z his m2 hL1;go_enter Tryz.func36,Tryz.ntmps36;go_wp2_with (first|(go_at_call 88;(with_reducible refine mo0 (HS.out _) fun w1 hb1 hc1 hf1 _=> ?_))|(go_at_call 89;(with_reducible show Calls _ _ #[bs size] _ _);(with_reducible refine mo0 (HP.out _) fun w2 hb2 hc2 hf2 _=> ?_))|(go_at_call 89;(with_reducible show Calls _ _ #[bs bot] _ _);(with_reducible refine mo0 (HB.out _) fun w3 hb3 hc3 hf3 _=> ?_)))
     go_ret;exact ⟨rfl,bi⟩
    ·rw [if_neg (by rw [hzl,hbl];simp [hL1];omega),Bool.false_and,if_neg (by decide)];have r1:decide ((600:Int) < (k:Int))=false:=by rw [decide_eq_false_iff_not];omega
     have r2:decide ((600:Int) < (s.length:Int) - (k:Int) - 1)=false:=by rw [decide_eq_false_iff_not];omega
     clear hs hk hsz hbt hl hll hle hzl hbl hb1 hb2;clear hz hdz h0z his m2 hL1;go_enter Tryz.func36,Tryz.ntmps36;go_wp2_with (first|(go_at_call 88;(with_reducible refine mo0 (HS.out _) fun w1 hb1 hc1 hf1 _=> ?_))|(go_at_call 89;(with_reducible show Calls _ _ #[bs size] _ _);(with_reducible refine mo0 (HP.out _) fun w2 hb2 hc2 hf2 _=> ?_))|(go_at_call 89;(with_reducible show Calls _ _ #[bs bot] _ _);(with_reducible refine mo0 (HB.out _) fun w3 hb3 hc3 hf3 _=> ?_)))
     go_ret;exact ⟨rfl,bi⟩
theorem jia (h0:0 < s.length) (hh:s.head? ≠some 45) (hk:sl s=k) (hsz:s.take k=size) (hbt:s.drop (k+1)=bot) (hl:s.length≤15000):
  Calls Tryz.prog 36 #[bs s] w fun e w'=>e= .returned (.int .i64 (jhW false size bot (decide (k < s.length))))∧Below w.heap.size w w':=by
 obtain ⟨c,hc⟩:∃c,s.getD 0 0=c:=⟨_,rfl⟩;have q1:=jbb h0 hc
 have hcc:c≠45:=by
  intro e;apply hh;cases s with
  | nil=>simp at h0
  | cons a r=>simp at hc;rw [←e,←hc];rfl
 have q2:decide (0 < s.length)=true:=by rw [decide_eq_true_iff];omega
 have q3:(((c.toNat:Nat):Int)==45)=false:=by
  rw [beq_eq_false_iff_ne];intro h;exact hcc (UInt8.toNat_inj.1 (by rw [show (45:UInt8).toNat=45 from rfl];omega))
 have hle:=jgD s;rw [hk] at hle;have hzl:size.length=k:=by rw [←hsz,List.length_take];omega
 have hbl:bot.length=s.length - (k+1):=by rw [←hbt,List.length_drop]
 have HS:=qh (fun W=>by have:=jaW (w:=W) (l:=s) (by omega);rwa [hk] at this);obtain ⟨b1,hb1⟩:∃b,Dig.plain size=b:=⟨_,rfl⟩;obtain ⟨b2,hb2⟩:∃b,Dig.plain bot=b:=⟨_,rfl⟩;have HP:=qh (fun W=>jdg (w:=W) hb1 (by omega));have HB:=qh (fun W=>jdg (w:=W) hb2 (by omega));have q6:=fun W=>jdk (l:=s) (k:=k) Tryz.underlying9 hle W
 rw [hsz] at q6;unfold jhW;rw [hb1,hb2];cases b1
 ·rw [show (!false || (false && size==[48]))=true from rfl,if_pos rfl];clear hk hsz hbt hl hle hzl hbl hb1 hb2 hh hc hcc;go_enter Tryz.func36,Tryz.ntmps36;go_wp2_with (first|(go_at_call 88;(with_reducible refine mo0 (HS.out _) fun w1 hb1 hc1 hf1 _=> ?_))|(go_at_call 89;(with_reducible show Calls _ _ #[bs size] _ _);(with_reducible refine mo0 (HP.out _) fun w2 hb2 hc2 hf2 _=> ?_))|(go_at_call 89;(with_reducible show Calls _ _ #[bs bot] _ _);(with_reducible refine mo0 (HB.out _) fun w3 hb3 hc3 hf3 _=> ?_)))
  go_ret;exact ⟨rfl,bi⟩
 ·obtain ⟨hdz,h0z⟩:=jc7 hb1;have hz:¬((false && size==[48])=true):=by simp
  rw [show (!true || (false && size==[48]))=false by simp,if_neg (by decide)]
  skip
  have m2:=jce (i:=k) (by omega);have m4:wrap64 ((s.length:Int) - (k:Int))=(s.length:Int) - (k:Int):=by unfold wrap64;omega
  have m5:wrap64 ((s.length:Int) - (k:Int) - 1)=(s.length:Int) - (k:Int) - 1:=by unfold wrap64;omega
  by_cases his:k < s.length
  ·have r3:decide (k < s.length)=true:=by simpa using his
   rw [r3];have q8:=fun W=>jbr (l:=s) (k:=k+1) Tryz.underlying9 (by omega) W
   rw [hbt] at q8;simp only [←m2] at q8;cases b2
   ·rw [show (true && (!false || (bot==[48]) || (bot==[49])))=true from rfl,if_pos rfl];clear hk hsz hbt hl hle hzl hbl hb1 hb2 hh hc hcc;clear hz hdz h0z his m2;go_enter Tryz.func36,Tryz.ntmps36;go_wp2_with (first|(go_at_call 88;(with_reducible refine mo0 (HS.out _) fun w1 hb1 hc1 hf1 _=> ?_))|(go_at_call 89;(with_reducible show Calls _ _ #[bs size] _ _);(with_reducible refine mo0 (HP.out _) fun w2 hb2 hc2 hf2 _=> ?_))|(go_at_call 89;(with_reducible show Calls _ _ #[bs bot] _ _);(with_reducible refine mo0 (HB.out _) fun w3 hb3 hc3 hf3 _=> ?_)))
    go_ret;exact ⟨rfl,bi⟩
   ·by_cases h48:bot=[48]
    ·rw [show (true && (!true || (bot==[48]) || (bot==[49])))=true by rw [h48];rfl,if_pos rfl];have r4:(bot==[48])=true:=by rw [h48];rfl
     clear hk hsz hbt hl hle hzl hbl hb1 hb2 hh hc hcc;clear hz hdz h0z his m2 h48;go_enter Tryz.func36,Tryz.ntmps36;go_wp2_with (first|(go_at_call 88;(with_reducible refine mo0 (HS.out _) fun w1 hb1 hc1 hf1 _=> ?_))|(go_at_call 89;(with_reducible show Calls _ _ #[bs size] _ _);(with_reducible refine mo0 (HP.out _) fun w2 hb2 hc2 hf2 _=> ?_))|(go_at_call 89;(with_reducible show Calls _ _ #[bs bot] _ _);(with_reducible refine mo0 (HB.out _) fun w3 hb3 hc3 hf3 _=> ?_)))
     go_ret;exact ⟨rfl,bi⟩
    ·have r4:(bot==[48])=false:=by simpa using h48
     by_cases h49:bot=[49]
     ·rw [show (true && (!true || (bot==[48]) || (bot==[49])))=true by rw [h49];rfl,if_pos rfl];have r5:(bot==[49])=true:=by rw [h49];rfl
      clear hk hsz hbt hl hle hzl hbl hb1 hb2 hh hc hcc;clear hz hdz h0z his m2 h48 h49;go_enter Tryz.func36,Tryz.ntmps36;go_wp2_with (first|(go_at_call 88;(with_reducible refine mo0 (HS.out _) fun w1 hb1 hc1 hf1 _=> ?_))|(go_at_call 89;(with_reducible show Calls _ _ #[bs size] _ _);(with_reducible refine mo0 (HP.out _) fun w2 hb2 hc2 hf2 _=> ?_))|(go_at_call 89;(with_reducible show Calls _ _ #[bs bot] _ _);(with_reducible refine mo0 (HB.out _) fun w3 hb3 hc3 hf3 _=> ?_)))
      go_ret;exact ⟨rfl,bi⟩
     ·have r5:(bot==[49])=false:=by simpa using h49
      rw [show (true && (!true || (bot==[48]) || (bot==[49])))=false by rw [r4,r5];rfl,if_neg (by decide),Bool.true_and];by_cases hL1:600 < k
      ·rw [if_pos (by rw [hzl];simp [hL1])];have r1:decide ((600:Int) < (k:Int))=true:=by rw [decide_eq_true_iff];omega
       clear hk hsz hbt hl hle hzl hbl hb1 hb2 hh hc hcc;clear hz hdz h0z his m2 h48 h49 hL1;go_enter Tryz.func36,Tryz.ntmps36;go_wp2_with (first|(go_at_call 88;(with_reducible refine mo0 (HS.out _) fun w1 hb1 hc1 hf1 _=> ?_))|(go_at_call 89;(with_reducible show Calls _ _ #[bs size] _ _);(with_reducible refine mo0 (HP.out _) fun w2 hb2 hc2 hf2 _=> ?_))|(go_at_call 89;(with_reducible show Calls _ _ #[bs bot] _ _);(with_reducible refine mo0 (HB.out _) fun w3 hb3 hc3 hf3 _=> ?_)))
       go_ret;exact ⟨rfl,bi⟩
      ·have r1:decide ((600:Int) < (k:Int))=false:=by rw [decide_eq_false_iff_not];omega
       by_cases hL2:600 < bot.length
       ·rw [if_pos (by simp [hL2])];have r2:decide ((600:Int) < (s.length:Int) - (k:Int) - 1)=true:=by rw [decide_eq_true_iff];omega
        clear hk hsz hbt hl hle hzl hbl hb1 hb2 hh hc hcc;clear hz hdz h0z his m2 h48 h49 hL1 hL2;go_enter Tryz.func36,Tryz.ntmps36;go_wp2_with (first|(go_at_call 88;(with_reducible refine mo0 (HS.out _) fun w1 hb1 hc1 hf1 _=> ?_))|(go_at_call 89;(with_reducible show Calls _ _ #[bs size] _ _);(with_reducible refine mo0 (HP.out _) fun w2 hb2 hc2 hf2 _=> ?_))|(go_at_call 89;(with_reducible show Calls _ _ #[bs bot] _ _);(with_reducible refine mo0 (HB.out _) fun w3 hb3 hc3 hf3 _=> ?_)))
        go_ret;exact ⟨rfl,bi⟩
       ·rw [if_neg (by rw [hzl];simp [hL1,hL2])];have r2:decide ((600:Int) < (s.length:Int) - (k:Int) - 1)=false:=by rw [decide_eq_false_iff_not];omega
        have hbp:=jc7 hb2;have HPT:=qh (fun W=>(jf2 (w:=W) hk his (by omega) hsz hbt (fun W=>jbY hdz h0z (by omega) rfl) (fun W=>jbY hbp.1 hbp.2 (by omega) rfl)).mono fun e w' h=>h.dv (show size.length+1≤20000 by omega) (show bot.length+1≤20000 by omega));obtain ⟨G,hG⟩:∃G,Nat.gcd (Dig.val size) (Dig.val bot)=G:=⟨_,rfl⟩;rw [show decide (Nat.gcd (Dig.val size) (Dig.val bot)≠1)=decide (G≠1) by simp only [hG]];have HG:=qh hG;obtain ⟨R,hR⟩:∃R:Int,(if decide (G≠1)=true then 1 else 0)=R:=⟨_,rfl⟩;rw [hR];have HR:=qh hR;clear hR;clear hk hsz hbt hl hle hzl hbl hb1 hb2 hh hc hcc;clear hz hdz h0z his m2 h48 h49 hbp hG hL1 hL2;go_enter Tryz.func36,Tryz.ntmps36;go_upto_region 14 with (first|(go_at_call 88;(with_reducible refine mo0 (HS.out _) fun w1 hb1 hc1 hf1 _=> ?_))|(go_at_call 89;(with_reducible show Calls _ _ #[bs size] _ _);(with_reducible refine mo0 (HP.out _) fun w2 hb2 hc2 hf2 _=> ?_))|(go_at_call 89;(with_reducible show Calls _ _ #[bs bot] _ _);(with_reducible refine mo0 (HB.out _) fun w3 hb3 hc3 hf3 _=> ?_))|(go_at_call 90;(with_reducible refine (HPT.out _).mono ?_);rintro e4 w4 ⟨A4,n4,c4,ds4,B4,n5,d4,es4,rfl,hd4,ht4,hv4,he4,hu4,hx4,hn4,hm4,hb4⟩;obtain ⟨hc4,hf4,_⟩:=bc0 hb4;have H4:=qh (And.intro hd4 (And.intro ht4 (And.intro hv4 (And.intro he4 (And.intro hu4 hx4)))));have HSM:=qh (And.intro hn4 hm4);clear hn4 hm4 hd4 ht4 hv4 he4 hu4 hx4)|(go_at_call 91;(with_reducible refine (jgA (H4.out.1.below bi) (H4.out.2.2.2.1.below bi) H4.out.2.1 H4.out.2.2.2.2.1 HSM.out.1 HSM.out.2).mono ?_);rintro e5 w5 ⟨G5,k5,d5,gs,rfl,hg5,tg5,hvg,hb5⟩;obtain ⟨hc5,hf5,_⟩:=bc0 hb5;rw [H4.out.2.2.1,H4.out.2.2.2.2.2,HG.out] at hvg;have H5:=qh (And.intro hg5 (And.intro tg5 hvg));clear hg5 tg5 hvg))
        by_cases h1:G=1
        ·subst h1;obtain rfl:=jp7 H5.out.1.dig H5.out.2.1 H5.out.2.2;obtain rfl:k5=1:=H5.out.1.len.symm;obtain ⟨b,o,rfl,hlt,hcell⟩:=H5.out.1.at_ (by omega);have hcl:w5.cell? ⟨b,o,none⟩=some (.int .i64 1):=hcell 0 (by omega);clear hcell hlt;obtain rfl:(0:Int)=R:=HR.out;clear HR;go_wp2;go_ret;exact ⟨rfl,bi⟩
        ·have r6:decide (G≠1)=true:=by simpa using h1
         obtain rfl:(1:Int)=R:=by rw [←HR.out,r6];rfl
         clear HR;by_cases hk5:k5=1
         ·subst hk5
          obtain ⟨y,rfl⟩:∃y,gs=[y]:=by
           have:=H5.out.1.len
           match gs,this with
           | [y],_=>exact ⟨y,rfl⟩
          obtain ⟨b,o,rfl,hlt,hcell⟩:=H5.out.1.at_ (by omega);have hcl:w5.cell? ⟨b,o,none⟩=some (.int .i64 (y:Int)):=hcell 0 (by omega);have hy:y=G:=by have:=H5.out.2.2;rwa [Pos.nv_one] at this
          have r7:((y:Int) != 1)=true:=by rw [bne_iff_ne];omega
          have r8:(y != 1)=true:=by rw [bne_iff_ne];omega
          clear hcell hlt hy h1 r6;go_wp2;go_ret;exact ⟨rfl,bi⟩
         ·have r7:((k5:Int) != 1)=true:=by rw [bne_iff_ne];omega
          have r8:(k5 != 1)=true:=by rw [bne_iff_ne];omega
          clear h1 r6 hk5;go_wp2;go_ret;exact ⟨rfl,bi⟩
  ·have r3:decide (k < s.length)=false:=by simpa using his
   rw [r3,Bool.false_and,if_neg (by decide)];by_cases hL1:600 < k
   ·rw [if_pos (by rw [hzl];simp [hL1])];have r1:decide ((600:Int) < (k:Int))=true:=by rw [decide_eq_true_iff];omega
    clear hk hsz hbt hl hle hzl hbl hb1 hb2 hh hc hcc;clear hz hdz h0z his m2 hL1;go_enter Tryz.func36,Tryz.ntmps36;go_wp2_with (first|(go_at_call 88;(with_reducible refine mo0 (HS.out _) fun w1 hb1 hc1 hf1 _=> ?_))|(go_at_call 89;(with_reducible show Calls _ _ #[bs size] _ _);(with_reducible refine mo0 (HP.out _) fun w2 hb2 hc2 hf2 _=> ?_))|(go_at_call 89;(with_reducible show Calls _ _ #[bs bot] _ _);(with_reducible refine mo0 (HB.out _) fun w3 hb3 hc3 hf3 _=> ?_)))
    go_ret;exact ⟨rfl,bi⟩
   ·rw [if_neg (by rw [hzl,hbl];simp [hL1];omega),Bool.false_and,if_neg (by decide)];have r1:decide ((600:Int) < (k:Int))=false:=by rw [decide_eq_false_iff_not];omega
    have r2:decide ((600:Int) < (s.length:Int) - (k:Int) - 1)=false:=by rw [decide_eq_false_iff_not];omega
    clear hk hsz hbt hl hle hzl hbl hb1 hb2 hh hc hcc;clear hz hdz h0z his m2 hL1;go_enter Tryz.func36,Tryz.ntmps36;go_wp2_with (first|(go_at_call 88;(with_reducible refine mo0 (HS.out _) fun w1 hb1 hc1 hf1 _=> ?_))|(go_at_call 89;(with_reducible show Calls _ _ #[bs size] _ _);(with_reducible refine mo0 (HP.out _) fun w2 hb2 hc2 hf2 _=> ?_))|(go_at_call 89;(with_reducible show Calls _ _ #[bs bot] _ _);(with_reducible refine mo0 (HB.out _) fun w3 hb3 hc3 hf3 _=> ?_)))
    go_ret;exact ⟨rfl,bi⟩
end
theorem jnk {w:World} {l:List UInt8} {k:Int} (hk:chk l=k) (hl:l.length≤15000):Calls Tryz.prog 36 #[bs l] w fun e w'=>e= .returned (.int .i64 k)∧Below w.heap.size w w':=by
 subst hk;by_cases h0:l=[]
 ·subst h0;have:=jk2 (w:=w);rwa [show (1:Int)=chk [] by rw [←jh4 (s:=[]) (by simp)];rfl] at this
 ·by_cases h:l.head? =some 45
  ·obtain ⟨s,rfl⟩:∃s,l=45::s:=by
    cases l with
    | nil=>simp at h
    | cons a r=>simp at h;exact ⟨r,by rw [h]⟩
   rw [←jlf];exact jiX rfl rfl rfl rfl hl
  ·rw [←jh4 h];exact jia (List.length_pos_iff.2 h0) h rfl rfl rfl hl

theorem jtK {d:Int} {l:List UInt8} (h:few d l=true):∃x,Fw d l x:= @of_decide_eq_true _ (Classical.propDecidable _) h
theorem jt7 {d:Int} {l:List UInt8} (h:¬∃x,Fw d l x):few d l=false:= @decide_eq_false _ (Classical.propDecidable _) h
theorem jtS {d:Int} {l:List UInt8} (h:∃x,Fw d l x):few d l=true:= @decide_eq_true _ (Classical.propDecidable _) h
section
variable {w:World} {l:List UInt8} {d:Int}
theorem jtT {b:Bool} (hb:few d l=b) (h0:0≤d) (h8:d≤60):Calls Tryz.prog 15 #[bs l, .int .i64 d] w fun e w'=>e= .returned (.bool b)∧Below w.heap.size w w':=by
 subst hb;by_cases hl:(l.length:Int)≤2*d+2
 ·have q1:decide ((l.length:Int)≤2*d+2)=true:=by simpa using hl
  have HL:Hid (l.length≤122):=qh (by omega);have hlen:l.length < 4294967281:=by omega
  obtain ⟨k,hk⟩:∃k,chk l=k:=⟨_,rfl⟩;have HC:=qh (fun W=>jnk (w:=W) hk (Nat.le_trans HL.out (by decide)));by_cases hz:k=0
  ·subst hz;obtain ⟨x,hx⟩:=jaQ.1 hk;obtain ⟨a,ha⟩:∃a,jpM l=a:=⟨_,rfl⟩;obtain ⟨s,hs⟩:∃s,jpl a=s:=⟨_,rfl⟩;obtain ⟨t,ht⟩:∃t,jqZ l=t:=⟨_,rfl⟩;have hal:a.length≤122:=by rw [←ha];unfold jpM;rw [List.length_take];omega
   have HN:=qh (fun W=>jqu (w:=W) ha hlen);have HA:=qh (fun W=>jq8 (w:=W) hs (by omega));have HD:=qh (fun W=>jqO (w:=W) ht hlen);have hs2:s=Lib.decDigits x.num.natAbs:=by rw [←hs,←ha,hx.eq];exact joy x
   have ht2:t=Lib.decDigits x.den:=by rw [←ht,hx.eq];exact jrq x
   by_cases b1:(s.length:Int)≤d
   ·have r1:decide ((s.length:Int)≤d)=true:=by simpa using b1
    by_cases b2:(t.length:Int)≤d
    ·have r2:decide ((t.length:Int)≤d)=true:=by simpa using b2
     rw [jtS ⟨x,hx.eq,by rw [←hs2];exact b1,by rw [←ht2];exact b2⟩];clear hl hlen hk hx ha hs ht hal hs2 ht2 b1 b2;go_enter Tryz.func15,Tryz.ntmps15;go_wp2_with (first|(go_at_call 36;(with_reducible refine mo0 (HC.out _) fun w1 hb1 hc1 hf1 _=> ?_))|(go_at_call 49;(with_reducible refine mo0 (HN.out _) fun w2 hb2 hc2 hf2 _=> ?_))|(go_at_call 48;(with_reducible refine mo0 (HA.out _) fun w3 hb3 hc3 hf3 _=> ?_))|(go_at_call 50;(with_reducible refine mo0 (HD.out _) fun w4 hb4 hc4 hf4 _=> ?_)))
     go_ret;exact ⟨rfl,bi⟩
    ·have r2:decide ((t.length:Int)≤d)=false:=by simpa using b2
     rw [jt7 (fun ⟨y,hy⟩=>b2 (by
      have e:x=y:=jpi (hx.eq.symm.trans hy.eq)
      rw [ht2,e];exact hy.den))]
     clear hl hlen hk hx ha hs ht hal hs2 ht2 b1 b2;go_enter Tryz.func15,Tryz.ntmps15;go_wp2_with (first|(go_at_call 36;(with_reducible refine mo0 (HC.out _) fun w1 hb1 hc1 hf1 _=> ?_))|(go_at_call 49;(with_reducible refine mo0 (HN.out _) fun w2 hb2 hc2 hf2 _=> ?_))|(go_at_call 48;(with_reducible refine mo0 (HA.out _) fun w3 hb3 hc3 hf3 _=> ?_))|(go_at_call 50;(with_reducible refine mo0 (HD.out _) fun w4 hb4 hc4 hf4 _=> ?_)))
     go_ret;exact ⟨rfl,bi⟩
   ·have r1:decide ((s.length:Int)≤d)=false:=by simpa using b1
    rw [jt7 (fun ⟨y,hy⟩=>b1 (by
     have e:x=y:=jpi (hx.eq.symm.trans hy.eq)
     rw [hs2,e];exact hy.num))]
    clear hl hlen hk hx ha hs ht hal hs2 ht2 b1;go_enter Tryz.func15,Tryz.ntmps15;go_wp2_with (first|(go_at_call 36;(with_reducible refine mo0 (HC.out _) fun w1 hb1 hc1 hf1 _=> ?_))|(go_at_call 49;(with_reducible refine mo0 (HN.out _) fun w2 hb2 hc2 hf2 _=> ?_))|(go_at_call 48;(with_reducible refine mo0 (HA.out _) fun w3 hb3 hc3 hf3 _=> ?_)))
    go_ret;exact ⟨rfl,bi⟩
  ·rw [jt7 (fun ⟨y,hy⟩=>hz (by rw [←hk];exact jaQ.2 ⟨y,hy.is (by omega)⟩))];have q2:(k==0)=false:=by rw [beq_eq_false_iff_ne];exact hz
   clear hl hlen hk hz;go_enter Tryz.func15,Tryz.ntmps15;go_wp2_with (first|(go_at_call 36;(with_reducible refine mo0 (HC.out _) fun w1 hb1 hc1 hf1 _=> ?_)))
   go_ret;exact ⟨rfl,bi⟩
 ·rw [jt7 (fun ⟨y,hy⟩=>hl hy.len)];have q1:decide ((l.length:Int)≤2*d+2)=false:=by simpa using hl
  clear hl;go_enter Tryz.func15,Tryz.ntmps15;go_wp2;go_ret;exact ⟨rfl,bi⟩
end
end Go.Proofs.YteokfcjdfjhhhaaGreatDoor
