/- Parts. -/
import Derived.Test.YtfagcpcikjlboaaGreatDoorKfG
set_option linter.all false
set_option maxRecDepth 100000
set_option maxHeartbeats 8000000
namespace Go.Proofs.YtfagcpcikjlboaaGreatDoor
open Go Go.RowKit Go.Proofs.Tryz

section
variable {w:World} {l:List UInt8} {x:Nat} {z:Int}
theorem jbL (hd:jcG l) (h0:0 < l.length) (hl:l.length≤45000) (hx:Dig.val l=x):Calls prog 83 #[bs l] w (RzP (x:Int) (l.length+1) w):=by
 obtain ⟨c,hc⟩:∃c,l.getD 0 0=c:=⟨_,rfl⟩;have q0:=jaW h0 hc;have hcd:=jev (hd c (by rw [←hc,List.getD_eq_getElem?_getD,List.getElem?_eq_getElem h0];exact List.getElem_mem h0));have q1:(((c.toNat:Nat):Int)==45)=false:=by rw [beq_eq_false_iff_ne];omega
 have q2:decide (0 < l.length)=true:=by rw [decide_eq_true_iff];omega
 have HX:=qh (ai hx (ai hd hl));obtain ⟨z,hz⟩:∃z,(x:Int)=z:=⟨_,rfl⟩;have HZ:=qh (show (if false=true then -((x:Nat):Int) else ((x:Nat):Int))=z by simpa using hz);rw [hz];clear hx hd hl hcd hc hz;go_enter func83,ntmps83;go_wp2;clear q0 q1 q2 h0;obtain ⟨W,hW⟩:∃W,w.alloc (.cells #[.bool false, .slice none 0 0] 81)=W:=⟨_,rfl⟩;have sW:W.heap.size=w.heap.size+1:=by rw [←hW];simp
 have bW:Below w.heap.size w W:=by rw [←hW];exact bi
 have HBX:=qh (show Blk W w.heap.size 81 #[.bool false, .slice none 0 0] from by rw [←hW];exact Blk.new w _ _);simp only [hW];have HW:=qh (ai sW bW);clear hW sW bW
 go_loopw [0,4] (fun u v wr=>∃(r:List UInt8) (ds:List Nat),u=bs r∧jcG r∧ds.length*9+r.length=l.length∧Below W.heap.size W wr∧jbW wr W.heap.size v ds.length (iz ds)∧Pos.Dig B9 ds∧Pos.nv B9 ds+B9^ds.length*Dig.val r=x) (fun u _ _=>match u with | .string b=>b.size | _=>0)
 case atStart=>exact ⟨l,[],rfl,HX.o.2.1,by simp,bi,World.ownsRow_nil _ _ _ _,Pos.Dig.nil,by rw [←HX.o.1];simp [Pos.nv]⟩
 case round=>
  obtain ⟨r,ds,rfl,hr,hlen,hb,how,hdg,hv⟩:=hrel;have _:=bm hb;have HOW:=qh how;have HDG:=qh (ai hdg (ai hr hlen));have hrl:r.length≤45000:=by have:=HX.o.2.2;omega
  have hdl:ds.length≤45000:=by have:=HX.o.2.2;omega
  by_cases h9:9 < r.length
  ·have p0:decide ((9:Int) < (r.length:Int))=true:=by rw [decide_eq_true_iff];omega
   obtain ⟨k,hk⟩:∃k,k+9=r.length:=⟨r.length - 9,by omega⟩;have m1:wrap64 ((r.length:Int) - 9)=(k:Int):=by unfold wrap64;omega
   have q4:=fun W=>jaV (l:=r) (k:=k) underlying9 (by omega) W
   have q5:=fun W=>jcJ (l:=r) (k:=k) underlying9 (by omega) W
   have hvn:=jj6 (ds:=ds) hk;have HVL:=qh (fun W=>jaQ (w:=W) (jbE hr k) (by rw [List.length_drop];omega));have hd9:Dig.val (r.drop k) < B9:=jdQ (jbE hr k) (by rw [List.length_drop];omega);obtain ⟨y,hy⟩:∃y,Dig.val (r.drop k)=y:=⟨_,rfl⟩;rw [hy] at hvn HVL hd9;have HN:=qh (ai (show Pos.nv B9 (ds++[y])+B9^(ds++[y]).length*Dig.val (r.take k)=x by rw [hvn];exact hv) (ai (hdg.snoc hd9) (ai hk (ai hrl hdl))));clear hr hlen how hdg hv hvn hd9 hy hk h9 hrl hdl;go_wp2_with (first|(go_at_call 81;(with_reducible refine mo0 (HVL.o _) fun w1 hb1 hc1 hf1 _=> ?_))|(at_builtin;refine jac (v:=u4) (x:=(y:Int)) rfl _ _ rfl rfl rfl rfl (HOW.o.below bi) (jaY ds) (by have:=HN.o.2.2.2.2;omega) (by have:=hb.size;have:=hb1.size;simp;omega) (by simp) ?_;intro g5 c5 w5 ho5 hc5 hg5;clear hc5))
   have hk':=HN.o.2.2.1;refine ⟨⟨r.take k,ds++[y],rfl,jet HDG.o.2.1 k,by have:=HDG.o.2.2;rw [List.length_append,List.length_take,List.length_singleton];omega,(ja5 (ja0 hb hb1) _).trans (jab (base:=W.heap.size) hg5 (by have:=hb.size;have:=hb1.size;simp;omega) HOW.o.ge),by rw [List.length_append,List.length_singleton,←jbn];exact ho5,HN.o.2.1,HN.o.1⟩,by simp [ByteArray.size];omega⟩
  ·have p0:decide ((9:Int) < (r.length:Int))=false:=by rw [decide_eq_false_iff_not];omega
   have HVL:=qh (fun W=>jaQ (w:=W) hr (by omega));have hd9:Dig.val r < B9:=jdQ hr (by omega);obtain ⟨y,hy⟩:∃y,Dig.val r=y:=⟨_,rfl⟩;rw [hy] at hv HVL hd9;have HN:=qh (ai (show Pos.nv B9 (ds++[y])=x by rw [Pos.nv_snoc];exact hv) (ai (hdg.snoc hd9) (ai hdl (show ds.length+1≤l.length+1 by omega))));clear hr hlen how hdg hv hd9 hy h9 hrl hdl;go_wp2_with (first|(go_at_call 81;(with_reducible refine mo0 (HVL.o _) fun w1 hb1 hc1 hf1 _=> ?_))|(at_builtin;refine jac (v:=u4) (x:=(y:Int)) rfl _ _ rfl rfl rfl rfl (HOW.o.below bi) (jaY ds) (by have:=HN.o.2.2.1;omega) (by have:=hb.size;have:=hb1.size;simp;omega) (by simp) ?_;intro g5 c5 w5 ho5 hc5 hg5;clear hc5;have hb5:=(ja5 (ja0 hb hb1) _).trans (jab (base:=W.heap.size) hg5 (by have:=hb.size;have:=hb1.size;simp;omega) HOW.o.ge);obtain ⟨A5,d5,e5,hdv,hn5,hx5⟩:=jbW.dv (ds:=ds++[y]) (by rw [←jbn];exact ho5) (by simp) HN.o.2.1 (by have:=HN.o.2.2.1;omega);cases e5;have HDV:=qh (ai hdv (ai hn5 hx5));clear hdv hn5 hx5 ho5 hg5)|(go_at_call 73;(with_reducible refine (jax (g:=false) (z:=z) HDV.o.1 HDV.o.2.1 HDV.o.2.2 (by rw [HN.o.1];simpa using HZ.o)).mono ?_);rintro e6 w6 ⟨k6,rfl,h61,h62,h63,h64,hb6⟩;have _:=bm hb6;have hbW:=ja0 hb5 hb6;have HB6:=HBX.o.below hbW;have k0:=HB6.cell 0;have k1:=HB6.cell 1;have kf:=HB6.frozen;(simp only [List.getElem?_toArray,List.getElem?_cons_zero,List.getElem?_cons_succ] at k0 k1);have H6:=qh (ai h61 (ai h62 (ai h63 h64)));clear h61 h62 h63 h64))
   have hbF:=ja0 HW.o.2 hbW;exact bodyPost_ret (v:= .agg #[.bool (decide (z < 0)), .slice (some ⟨g5,0,none⟩) k6 c5]) (by simp [results,results83,go_sem,k0,k1]) rfl (jcd H6.o.1 H6.o.2.1 H6.o.2.2.1 HDV.o.2.1 HDV.o.2.2 (by have:=HN.o.2.2.2;have:=H6.o.2.2.2;omega) H6.o.2.2.2 HB6 _ _ (bq (by with_reducible repeat' first|assumption|constructor|go_size)))
theorem jnD (hd:jcG l) (h0:0 < l.length) (hl:l.length≤45000) (hx:Dig.val l=x):Calls prog 83 #[bs (45::l)] w (RzP (-(x:Int)) (l.length+1) w):=by
 obtain ⟨m,hm⟩:∃m,45::l=m:=⟨_,rfl⟩;have hll:m.length=l.length+1:=by rw [←hm];simp
 have q1:=jaW (l:=m) (i:=0) (c:=45) (by omega) (by rw [←hm];rfl);have q2:decide (0 < m.length)=true:=by rw [decide_eq_true_iff];omega
 have q3:(((45:UInt8).toNat:Int)==45)=true:=rfl;have q9:m.tail=l:=by rw [←hm];rfl
 have q10:(⟨m.toArray⟩:ByteArray).extract 1 m.length=⟨l.toArray⟩:=by rw [jat,←hm];rfl
 have q11:0 < m.length:=by omega
 have HX:=qh (ai hx (ai hd hl));obtain ⟨z,hz⟩:∃z, -(x:Int)=z:=⟨_,rfl⟩;have HZ:=qh (show (if true=true then -((x:Nat):Int) else ((x:Nat):Int))=z by simpa using hz);rw [hz,hm];clear hx hd hl hz hm hll;go_enter func83,ntmps83;go_wp2;clear q1 q2 q3 q9 q10 q11 h0;obtain ⟨W,hW⟩:∃W,w.alloc (.cells #[.bool false, .slice none 0 0] 81)=W:=⟨_,rfl⟩;have sW:W.heap.size=w.heap.size+1:=by rw [←hW];simp
 have bW:Below w.heap.size w W:=by rw [←hW];exact bi
 have HBX:=qh (show Blk W w.heap.size 81 #[.bool false, .slice none 0 0] from by rw [←hW];exact Blk.new w _ _);simp only [hW];have HW:=qh (ai sW bW);clear hW sW bW
 go_loopw [0,4] (fun u v wr=>∃(r:List UInt8) (ds:List Nat),u=bs r∧jcG r∧ds.length*9+r.length=l.length∧Below W.heap.size W wr∧jbW wr W.heap.size v ds.length (iz ds)∧Pos.Dig B9 ds∧Pos.nv B9 ds+B9^ds.length*Dig.val r=x) (fun u _ _=>match u with | .string b=>b.size | _=>0)
 case atStart=>exact ⟨l,[],rfl,HX.o.2.1,by simp,bi,World.ownsRow_nil _ _ _ _,Pos.Dig.nil,by rw [←HX.o.1];simp [Pos.nv]⟩
 case round=>
  obtain ⟨r,ds,rfl,hr,hlen,hb,how,hdg,hv⟩:=hrel;have _:=bm hb;have HOW:=qh how;have HDG:=qh (ai hdg (ai hr hlen));have hrl:r.length≤45000:=by have:=HX.o.2.2;omega
  have hdl:ds.length≤45000:=by have:=HX.o.2.2;omega
  by_cases h9:9 < r.length
  ·have p0:decide ((9:Int) < (r.length:Int))=true:=by rw [decide_eq_true_iff];omega
   obtain ⟨k,hk⟩:∃k,k+9=r.length:=⟨r.length - 9,by omega⟩;have m1:wrap64 ((r.length:Int) - 9)=(k:Int):=by unfold wrap64;omega
   have q4:=fun W=>jaV (l:=r) (k:=k) underlying9 (by omega) W
   have q5:=fun W=>jcJ (l:=r) (k:=k) underlying9 (by omega) W
   have hvn:=jj6 (ds:=ds) hk;have HVL:=qh (fun W=>jaQ (w:=W) (jbE hr k) (by rw [List.length_drop];omega));have hd9:Dig.val (r.drop k) < B9:=jdQ (jbE hr k) (by rw [List.length_drop];omega);obtain ⟨y,hy⟩:∃y,Dig.val (r.drop k)=y:=⟨_,rfl⟩;rw [hy] at hvn HVL hd9;have HN:=qh (ai (show Pos.nv B9 (ds++[y])+B9^(ds++[y]).length*Dig.val (r.take k)=x by rw [hvn];exact hv) (ai (hdg.snoc hd9) (ai hk (ai hrl hdl))));clear hr hlen how hdg hv hvn hd9 hy hk h9 hrl hdl;go_wp2_with (first|(go_at_call 81;(with_reducible refine mo0 (HVL.o _) fun w1 hb1 hc1 hf1 _=> ?_))|(at_builtin;refine jac (v:=u4) (x:=(y:Int)) rfl _ _ rfl rfl rfl rfl (HOW.o.below bi) (jaY ds) (by have:=HN.o.2.2.2.2;omega) (by have:=hb.size;have:=hb1.size;simp;omega) (by simp) ?_;intro g5 c5 w5 ho5 hc5 hg5;clear hc5))
   have hk':=HN.o.2.2.1;refine ⟨⟨r.take k,ds++[y],rfl,jet HDG.o.2.1 k,by have:=HDG.o.2.2;rw [List.length_append,List.length_take,List.length_singleton];omega,(ja5 (ja0 hb hb1) _).trans (jab (base:=W.heap.size) hg5 (by have:=hb.size;have:=hb1.size;simp;omega) HOW.o.ge),by rw [List.length_append,List.length_singleton,←jbn];exact ho5,HN.o.2.1,HN.o.1⟩,by simp [ByteArray.size];omega⟩
  ·have p0:decide ((9:Int) < (r.length:Int))=false:=by rw [decide_eq_false_iff_not];omega
   have HVL:=qh (fun W=>jaQ (w:=W) hr (by omega));have hd9:Dig.val r < B9:=jdQ hr (by omega);obtain ⟨y,hy⟩:∃y,Dig.val r=y:=⟨_,rfl⟩;rw [hy] at hv HVL hd9;have HN:=qh (ai (show Pos.nv B9 (ds++[y])=x by rw [Pos.nv_snoc];exact hv) (ai (hdg.snoc hd9) (ai hdl (show ds.length+1≤l.length+1 by omega))));clear hr hlen how hdg hv hd9 hy h9 hrl hdl;go_wp2_with (first|(go_at_call 81;(with_reducible refine mo0 (HVL.o _) fun w1 hb1 hc1 hf1 _=> ?_))|(at_builtin;refine jac (v:=u4) (x:=(y:Int)) rfl _ _ rfl rfl rfl rfl (HOW.o.below bi) (jaY ds) (by have:=HN.o.2.2.1;omega) (by have:=hb.size;have:=hb1.size;simp;omega) (by simp) ?_;intro g5 c5 w5 ho5 hc5 hg5;clear hc5;have hb5:=(ja5 (ja0 hb hb1) _).trans (jab (base:=W.heap.size) hg5 (by have:=hb.size;have:=hb1.size;simp;omega) HOW.o.ge);obtain ⟨A5,d5,e5,hdv,hn5,hx5⟩:=jbW.dv (ds:=ds++[y]) (by rw [←jbn];exact ho5) (by simp) HN.o.2.1 (by have:=HN.o.2.2.1;omega);cases e5;have HDV:=qh (ai hdv (ai hn5 hx5));clear hdv hn5 hx5 ho5 hg5)|(go_at_call 73;(with_reducible refine (jax (g:=true) (z:=z) HDV.o.1 HDV.o.2.1 HDV.o.2.2 (by rw [HN.o.1];simpa using HZ.o)).mono ?_);rintro e6 w6 ⟨k6,rfl,h61,h62,h63,h64,hb6⟩;have _:=bm hb6;have hbW:=ja0 hb5 hb6;have HB6:=HBX.o.below hbW;have k0:=HB6.cell 0;have k1:=HB6.cell 1;have kf:=HB6.frozen;(simp only [List.getElem?_toArray,List.getElem?_cons_zero,List.getElem?_cons_succ] at k0 k1);have H6:=qh (ai h61 (ai h62 (ai h63 h64)));clear h61 h62 h63 h64))
   have hbF:=ja0 HW.o.2 hbW;exact bodyPost_ret (v:= .agg #[.bool (decide (z < 0)), .slice (some ⟨g5,0,none⟩) k6 c5]) (by simp [results,results83,go_sem,k0,k1]) rfl (jcd H6.o.1 H6.o.2.1 H6.o.2.2.1 HDV.o.2.1 HDV.o.2.2 (by have:=HN.o.2.2.2;have:=H6.o.2.2.2;omega) H6.o.2.2.2 HB6 _ _ (bq (by with_reducible repeat' first|assumption|constructor|go_size)))
end
section
variable {w:World} {l a b:List UInt8} {k L M:Nat} {x y:Int}
theorem Rz.far4 {w:World} {u:Value} {z:Int} {L:Nat} {B C:Nat} {T S:TypeId} (h:Rz w u z L) (hB:Blk w B T #[.bool false, .slice none 0 0]) (hC:Blk w C S #[.bool false, .slice none 0 0]) (p q r s:Value):
  Rz ((((w.setCell ⟨B,0,none⟩ p).setCell ⟨B,1,none⟩ q).setCell ⟨C,0,none⟩ r).setCell ⟨C,1,none⟩ s) u z L:=by
 obtain ⟨A,n,c,ds,rfl,h1,h2⟩:=h;obtain ⟨f0,f1,f01⟩:=jag hB;obtain ⟨f2,f3,f23⟩:=jag hC;have o0:=h1.off f0 f1 (fun _ _ e=>by cases e) f01;have o1:=h1.off f2 f3 (fun _ _ e=>by cases e) f23;exact ⟨A,n,c,ds,rfl,(((h1.far2 (p:=⟨B,0,none⟩) o0 _).far2 (p:=⟨B,1,none⟩) o0 _).far2 (p:=⟨C,0,none⟩) o1 _).far2 (p:=⟨C,1,none⟩) o1 _,h2⟩
def Pz (x y:Int) (L M:Nat) (w:World) (e:Ending) (w':World):Prop:=∃u v,e= .returned (.tuple #[u,v])∧Rz w' u x L∧Rz w' v y M∧Below w.heap.size w w'
theorem jfd (hk:sl l=k) (hkl:k < l.length) (hl:l.length≤90010) (ha:l.take k=a) (hb:l.drop (k+1)=b) (HA:∀W,Calls prog 83 #[bs a] W (RzP x L W)) (HB:∀W,Calls prog 83 #[bs b] W (RzP y M W)):
  Calls prog 39 #[bs l] w (Pz x y L M w):=by
 have HS:=qh (fun W=>by have:=jaA (w:=W) (l:=l) (by omega);rwa [hk] at this);have HA:=qh HA;have HB:=qh HB;have q6:=fun W=>jcJ (l:=l) (k:=k) underlying9 (by omega) W
 rw [ha] at q6;have q8:=fun W=>jaV (l:=l) (k:=k+1) underlying9 (by omega) W
 rw [hb] at q8;have q1:((k:Int)==(l.length:Int))=false:=by rw [beq_eq_false_iff_ne];omega
 have q2:(k==l.length)=false:=by rw [beq_eq_false_iff_ne];omega
 have q9:IntKind.i64.wrap ((k:Int)+1)=(k:Int)+1:=k64 (by omega);have p1:(0:Int)≤(k:Int)+1:=by omega
 have p2:(k:Int)+1≤(l.length:Int):=by omega
 have p3:(⟨l.toArray⟩:ByteArray).extract (k+1) l.length=⟨b.toArray⟩:=by rw [jat,hb]
 clear hk hkl hl ha hb;go_enter func39,ntmps39;go_upto_region 5 with (go_at_call 46;(with_reducible refine mo0 (HS.o _) fun w1 hb1 hc1 hf1 _=> ?_))
 have sW:w.heap.size+1 < w1.heap.size:=by have:=hb1.size;simp at this;omega
 have bW:Below w.heap.size w w1:=bi;have HB0:=qh (show Blk w1 w.heap.size 81 #[.bool false, .slice none 0 0] from ((Blk.new w 81 #[.bool false, .slice none 0 0]).below (ja5 (Below.refl _ _) _)).below hb1)
 have HB1:=qh (show Blk w1 (w.heap.size+1) 81 #[.bool false, .slice none 0 0] from by
  have:=(Blk.new (w.alloc (.cells #[.bool false, .slice none 0 0] 81)) 81 #[.bool false, .slice none 0 0]).below hb1
  simpa using this)
 clear hc1 hf1 hb1;refine ja1 (fun w'=>Below w.heap.size w w') [] (by kernel_rfl) ?_;refine tl [(0,[],bs l),(1,[], .int .i64 (k:Int)),(2,[],bs a)] [_,_,_] rfl (by kernel_rfl) pk5 (by intros;simp only [tyq,ppq];go_simp) (bD bW) ?_;simp only [tlq,ppq];refine tl [(4,[],bs l),(5,[], .int .i64 (k:Int)),(6,[], .int .i64 ((k:Int)+1))] [_,_,_] rfl (by kernel_rfl) pk5 (by intros;simp only [tyq,ppq];go_simp) (bD bW) ?_;simp only [tlq,ppq];refine tb 7 (bs b) [] rfl (by kernel_rfl) pk rfl (by intros;go_simp) (bD bW) ?_;simp only [ppq];refine rd1 3 (by kernel_rfl) rfl (fun K hK=> ?_);go_simp;go_wp2_with (go_at_call 83;(with_reducible refine (HA.o _).mono ?_);rintro e2 w2 ⟨r2,rfl,⟨A,n,c,ds,rfl,x1,x2⟩,hb2⟩;have _:=bm hb2;have H2:=qh (ai x1 x2);clear x1 x2)
 have sS2:=qh (bst (bD bW) hb2);refine hK.out _ _ (fun _=>sS2.o) ?_;clear hK K;refine rd1 8 (by kernel_rfl) rfl (fun K hK=> ?_);go_simp;go_wp2_with (go_at_call 83;(with_reducible refine (HB.o _).mono ?_);rintro e3 w3 ⟨r3,rfl,⟨B,m,d,es,rfl,x1,x2⟩,hb3⟩;have _:=bm hb3;have H3:=qh (ai x1 x2);clear x1 x2)
 have sS3:=qh (bst sS2.o hb3);refine hK.out _ _ (fun _=>sS3.o) ?_;clear hK K;have hb13:=ja0 hb2 hb3;have HC0:=(HB0.o.below (bD (Below.refl _ _))).below hb13;have HC1:=(HB1.o.below (bD (Below.refl _ _))).below hb13;obtain ⟨k0,k1, -⟩:=jag HC0;obtain ⟨k2,k3, -⟩:=jag HC1;have kf0:=HC0.frozen;have kf1:=HC1.frozen;refine rd1 9 (by kernel_rfl) rfl (fun K hK=> ?_);go_simp;refine hK.out _ _ (fun _=>bi) ?_;clear hK K;refine rd1 10 (by kernel_rfl) rfl (fun K hK=> ?_);go_simp;refine hK.out _ _ (fun _=>bi) ?_;clear hK K;refine ja2 (by kernel_rfl) ?_ _;obtain ⟨s,hs⟩:∃s,decide (x < 0)=s:=⟨_,rfl⟩;obtain ⟨t,ht⟩:∃s,decide (y < 0)=s:=⟨_,rfl⟩;have R2:=qh (show Rz w3 (.agg #[.bool s, .slice A n c]) x L from ⟨A,n,c,ds,by rw [hs],H2.o.1.below hb3,H2.o.2⟩);have R3:=qh (show Rz w3 (.agg #[.bool t, .slice B m d]) y M from ⟨B,m,d,es,by rw [ht],H3.o⟩);rw [hs,ht];go_wp2;exact bodyPost_ret (v:= .tuple #[.agg #[.bool s, .slice A n c], .agg #[.bool t, .slice B m d]]) (by simp [results,results39,go_sem,k0,k1,k2,k3]) rfl ⟨_,_,rfl,R2.o.far4 HC0 HC1 _ _ _ _,R3.o.far4 HC0 HC1 _ _ _ _,bi⟩
theorem RzP.at {z:Int} {L:Nat} {w w':World} {e:Ending} (h:RzP z L w e w') {s:Bool} (hs:decide (z < 0)=s):∃A n c,e= .returned (.agg #[.bool s, .slice A n c])∧Rz w' (.agg #[.bool s, .slice A n c]) z L∧Below w.heap.size w w':=by
 obtain ⟨v,rfl,⟨A,n,c,ds,rfl,h1,h2⟩,hb⟩:=h;rw [hs];exact ⟨A,n,c,rfl,⟨A,n,c,ds,by rw [hs],h1,h2⟩,hb⟩
theorem jng (hk:sl l=l.length) (hl:l.length≤90010) (HA:∀W,Calls prog 83 #[bs l] W (RzP x L W)):
  Calls prog 39 #[bs l] w (Pz x 1 L 3 w):=by
 have HS:=qh (fun W=>by have:=jaA (w:=W) (l:=l) (by omega);rwa [hk] at this);obtain ⟨s,hs⟩:∃s,decide (x < 0)=s:=⟨_,rfl⟩;have HA:=qh (fun W=>(HA W).mono fun e w' h=>h.at hs);have HB:=qh (fun W=>(show Calls prog 29 #[.int .i64 1] W (RzP 1 3 W) from jhW (w:=W) (N:=1) (by omega)).mono fun e w' h=>h.at (s:=false) rfl);have q1:((l.length:Int)==(l.length:Int))=true:=by simp
 have q2:(l.length==l.length)=true:=by simp
 clear hk hl hs;go_enter func39,ntmps39;go_upto_region 4 with (go_at_call 46;(with_reducible refine mo0 (HS.o _) fun w1 hb1 hc1 hf1 _=> ?_))
 have sW:w.heap.size+1 < w1.heap.size:=by have:=hb1.size;simp at this;omega
 have bW:Below w.heap.size w w1:=bi;have HB0:=qh (show Blk w1 w.heap.size 81 #[.bool false, .slice none 0 0] from ((Blk.new w 81 #[.bool false, .slice none 0 0]).below (ja5 (Below.refl _ _) _)).below hb1)
 have HB1:=qh (show Blk w1 (w.heap.size+1) 81 #[.bool false, .slice none 0 0] from by
  have:=(Blk.new (w.alloc (.cells #[.bool false, .slice none 0 0] 81)) 81 #[.bool false, .slice none 0 0]).below hb1
  simpa using this)
 clear hc1 hf1 hb1;go_wp2_with first|(go_at_call 83;(with_reducible refine (HA.o _).mono ?_);rintro e2 w2 ⟨A,n,c,rfl,x1,hb2⟩;have _:=bm hb2;have H2:=qh x1;clear x1)|(go_at_call 29;(with_reducible refine (HB.o _).mono ?_);rintro e3 w3 ⟨B,m,d,rfl,x1,hb3⟩;have _:=bm hb3;have H3:=qh x1;clear x1;have hb13:=ja0 hb2 hb3;have HC0:=HB0.o.below hb13;have HC1:=HB1.o.below hb13;obtain ⟨k0,k1, -⟩:=jag HC0;obtain ⟨k2,k3, -⟩:=jag HC1;have kf0:=HC0.frozen;have kf1:=HC1.frozen)
 exact bodyPost_ret (v:= .tuple #[.agg #[.bool s, .slice A n c], .agg #[.bool false, .slice B m d]]) (by simp [results,results39,go_sem,k0,k1,k2,k3]) rfl ⟨_,_,rfl,(H2.o.below hb3).far4 HC0 HC1 _ _ _ _,H3.o.far4 HC0 HC1 _ _ _ _,bi⟩
end

structure Dz (k:Nat) (x:Rat):Prop where
 num:x.num.natAbs < 10^k
 den:x.den < 10^k
theorem jbM {k m:Nat} (h:k≤m):10^k≤10^m:=Nat.pow_le_pow_right (by omega) h
theorem Dz.mono {k m:Nat} {x:Rat} (h:Dz k x) (hk:k≤m):Dz m x:=⟨Nat.lt_of_lt_of_le h.num (jbM hk),Nat.lt_of_lt_of_le h.den (jbM hk)⟩
theorem Dz.neg {k:Nat} {x:Rat} (h:Dz k x):Dz k (-x):=⟨by rw [Rat.neg_num,Int.natAbs_neg];exact h.num,by rw [Rat.neg_den];exact h.den⟩
theorem Sm.sz {x:Rat} (h:Sm x):Dz 9 x:=⟨h.num,h.den⟩
theorem Dz.sm {x:Rat} (h:Dz 9 x):Sm x:=⟨h.num,h.den⟩
theorem jhY {a:Int} {d:Nat} (hd:0 < d):(Rat.divInt a d).num.natAbs≤a.natAbs∧(Rat.divInt a d).den≤d:=by
 obtain ⟨h0,h1,h2⟩:=jeO (a:=a) (d:=d) hd rfl;constructor
 ·rw [←h1,Int.natAbs_tdiv];exact Nat.div_le_self _ _
 ·have h3:(d:Int).tdiv (Nat.gcd a.natAbs d:Int)=((d / Nat.gcd a.natAbs d:Nat):Int):=rfl;rw [h3] at h2;have:d / Nat.gcd a.natAbs d=(Rat.divInt a d).den:=by omega
  rw [←this];exact Nat.div_le_self _ _
theorem jdf {a:Int} {d k:Nat} (hd:0 < d) (h1:a.natAbs < 10^k) (h2:d < 10^k):Dz k (Rat.divInt a d):=
 ⟨Nat.lt_of_le_of_lt (jhY hd).1 h1,Nat.lt_of_le_of_lt (jhY hd).2 h2⟩
theorem jc6 {a b k m:Nat} (ha:a < 10^k) (hb:b < 10^m):a*b < 10^(k+m):=by
 rw [Nat.pow_add];exact Nat.mul_lt_mul'' ha hb
theorem Dz.add {k m:Nat} {x y:Rat} (hx:Dz k x) (hy:Dz m y):Dz (k+m+1) (x+y):=by
 rw [Rq.add_eq];have h3:=jc6 hx.den hy.den;have hd:=Nat.mul_pos x.den_pos y.den_pos;have e:((x.den:Int)*(y.den:Int))=((x.den*y.den:Nat):Int):=by rw [Int.natCast_mul]
 rw [e];refine jdf hd ?_ (Nat.lt_of_lt_of_le h3 (jbM (by omega)));have h1:=jc6 hx.num hy.den;have h2:=jc6 hy.num hx.den
 have h4:(x.num*(y.den:Int)+y.num*(x.den:Int)).natAbs≤x.num.natAbs*y.den+y.num.natAbs*x.den:=by
  refine Nat.le_trans (Int.natAbs_add_le _ _) ?_;rw [Int.natAbs_mul,Int.natAbs_mul,Int.natAbs_natCast,Int.natAbs_natCast];exact Nat.le_refl _
 rw [Nat.add_comm m k] at h2;rw [Nat.pow_succ];omega
theorem Dz.mul {k m:Nat} {x y:Rat} (hx:Dz k x) (hy:Dz m y):Dz (k+m) (x*y):=by
 rw [Rq.mul_eq];have hd:=Nat.mul_pos x.den_pos y.den_pos;have e:((x.den:Int)*(y.den:Int))=((x.den*y.den:Nat):Int):=by rw [Int.natCast_mul]
 rw [e];refine jdf hd ?_ (jc6 hx.den hy.den);rw [Int.natAbs_mul];exact jc6 hx.num hy.num
theorem Dz.sub {k m:Nat} {x y:Rat} (hx:Dz k x) (hy:Dz m y):Dz (k+m+1) (x - y):=by
 rw [Rat.sub_eq_add_neg];exact hx.add hy.neg
theorem jts {k:Nat} {x:Rat} (h:Dz k x) (hk:0 < k):(uq x).length≤2*k+1:=by
 rw [jdX];have h1:=jb0 h.num hk;have h2:=jb0 h.den hk;split <;> omega
theorem jur {k:Nat} {x:Rat} (h:Dz k x) (hk:0 < k):(tq x).length≤2*k+2:=by
 have:=jts h hk;rw [jcP];split
 ·simp;omega
 ·omega
def sm9 (x:Rat):Bool:=decide (x.num.natAbs < 1000000000) && decide (x.den < 1000000000)
theorem jeM {x:Rat}:sm9 x=true↔Sm x:=by
 unfold sm9;rw [Bool.and_eq_true,decide_eq_true_iff,decide_eq_true_iff];exact ⟨fun h=>⟨h.1,h.2⟩,fun h=>⟨h.num,h.den⟩⟩
theorem jkh {n:Nat} (h:1000000000≤n):9 < (Lib.decDigits n).length:=by
 rcases Nat.lt_or_ge 9 (Lib.decDigits n).length with h1|h1
 ·exact h1
 ·exfalso;have h2:=jfj (jbv n) h1;rw [Dig.val_digits] at h2;omega
theorem jtA {x:Rat} (h:sm9 x=false):9 < sl (uq x)∨sl (uq x)+10 < (uq x).length:=by
 rw [jkM,jdX];unfold sm9 at h;rw [Bool.and_eq_false_iff,decide_eq_false_iff_not,decide_eq_false_iff_not] at h;rcases h with h|h
 ·left;exact jkh (by omega)
 ·right
  have h1:=jkh (n:=x.den) (by omega);rw [if_neg (by intro e;rw [e] at h;omega)];omega
section
variable {w:World} {m l:List UInt8}
theorem jgQ {c:UInt8} {k:Nat} (h0:0 < m.length) (hc:m.getD 0 0=c) (hcc:c≠45) (hs:sl m=k) (hbad:9 < k∨k+10 < m.length) (hl:m.length < 4294967200):
  Calls prog 37 #[bs m] w fun e w'=>e= .returned (.tuple #[.int .i64 0, .int .i64 0, .bool false])∧Below w.heap.size w w':=by
 have hle:k≤m.length:=by rw [←hs];exact jgv m
 have HS:=qh (fun W=>by have:=jaA (w:=W) (l:=m) (by omega);rwa [hs] at this);have q1:=jaW h0 hc;have q2:decide (0 < m.length)=true:=by rw [decide_eq_true_iff];omega
 have q3:(((c.toNat:Nat):Int)==45)=false:=by
  rw [beq_eq_false_iff_ne];intro h;exact hcc (UInt8.toNat_inj.1 (by rw [show (45:UInt8).toNat=45 from rfl];omega))
 clear hc hcc;go_enter func37,ntmps37;by_cases h20:20 < m.length
 ·have q0:decide ((20:Int) < (m.length:Int))=true:=by rw [decide_eq_true_iff];omega
  clear h20 hbad hs hle hl;go_wp2;go_ret3;exact ⟨rfl,bi⟩
 ·have q0:decide ((20:Int) < (m.length:Int))=false:=by rw [decide_eq_false_iff_not];omega
  clear h20;by_cases h9:9 < k
  ·have q4:decide ((9:Int) < (k:Int))=true:=by rw [decide_eq_true_iff];omega
   clear h9 hbad hs;go_wp2_with (go_at_call 46;(with_reducible refine mo0 (HS.o _) fun w1 hb1 hc1 hf1 _=> ?_))
   go_ret3;exact ⟨rfl,bi⟩
  ·have q4:decide ((9:Int) < (k:Int))=false:=by rw [decide_eq_false_iff_not];omega
   have m1:wrap64 ((m.length:Int) - (k:Int))=(m.length:Int) - (k:Int):=by unfold wrap64;omega
   have q5:decide ((10:Int) < (m.length:Int) - (k:Int))=true:=by rw [decide_eq_true_iff];omega
   clear h9 hbad hs;go_wp2_with (go_at_call 46;(with_reducible refine mo0 (HS.o _) fun w1 hb1 hc1 hf1 _=> ?_))
   go_ret3;exact ⟨rfl,bi⟩
theorem jgP {k:Nat} (hs:sl m=k) (hbad:9 < k∨k+10 < m.length) (hl:m.length < 4294967200):
  Calls prog 37 #[bs (45::m)] w fun e w'=>e= .returned (.tuple #[.int .i64 0, .int .i64 0, .bool false])∧Below w.heap.size w w':=by
 have hle:k≤m.length:=by rw [←hs];exact jgv m
 have HS:=qh (fun W=>by have:=jaA (w:=W) (l:=m) (by omega);rwa [hs] at this);obtain ⟨l,hl'⟩:∃l,45::m=l:=⟨_,rfl⟩;have hll:l.length=m.length+1:=by rw [←hl'];simp
 have q1:=jaW (l:=l) (i:=0) (c:=45) (by omega) (by rw [←hl'];rfl);have q2:decide (0 < l.length)=true:=by rw [decide_eq_true_iff];omega
 have q3:(((45:UInt8).toNat:Int)==45)=true:=rfl;have q9:l.tail=m:=by rw [←hl'];rfl
 have q10:(⟨l.toArray⟩:ByteArray).extract 1 l.length=⟨m.toArray⟩:=by rw [jat,←hl'];rfl
 have q11:0 < l.length:=by omega
 rw [hl'];go_enter func37,ntmps37;by_cases h20:20 < l.length
 ·have q0:decide ((20:Int) < (l.length:Int))=true:=by rw [decide_eq_true_iff];omega
  clear h20 hbad hs hle hl hl' hll;go_wp2;go_ret3;exact ⟨rfl,bi⟩
 ·have q0:decide ((20:Int) < (l.length:Int))=false:=by rw [decide_eq_false_iff_not];omega
  clear h20 hl' hll;by_cases h9:9 < k
  ·have q4:decide ((9:Int) < (k:Int))=true:=by rw [decide_eq_true_iff];omega
   clear h9 hbad hs;go_wp2_with (go_at_call 46;(with_reducible refine mo0 (HS.o _) fun w1 hb1 hc1 hf1 _=> ?_))
   go_ret3;exact ⟨rfl,bi⟩
  ·have q4:decide ((9:Int) < (k:Int))=false:=by rw [decide_eq_false_iff_not];omega
   have m1:wrap64 ((m.length:Int) - (k:Int))=(m.length:Int) - (k:Int):=by unfold wrap64;omega
   have q5:decide ((10:Int) < (m.length:Int) - (k:Int))=true:=by rw [decide_eq_true_iff];omega
   clear h9 hbad hs;go_wp2_with (go_at_call 46;(with_reducible refine mo0 (HS.o _) fun w1 hb1 hc1 hf1 _=> ?_))
   go_ret3;exact ⟨rfl,bi⟩
end
theorem jgV {w:World} {x:Rat} {k:Nat} {b:Bool} (hb:sm9 x=b) (hx:Dz k x) (hk:0 < k) (hk2:k≤20000):Calls prog 37 #[bs (tq x)] w fun e w'=>∃n d:Int,e= .returned (.tuple #[.int .i64 n, .int .i64 d, .bool b])∧Below w.heap.size w w':=by
 cases b with
 | true=>exact (jdr rfl (jeM.1 hb)).mono fun e w' h=>⟨_,_,h⟩
 | false=>
   have h1:=jtA hb;have h2:=jts hx hk;rw [jcP];split
   ·exact (jgP rfl h1 (by omega)).mono fun e w' h=>⟨_,_,h⟩
   ·obtain ⟨c,h3,h4,h5⟩:=jcy x.num.natAbs;refine (jgQ (c:=c) ?_ ?_ h4 rfl h1 (by omega)).mono fun e w' h=>⟨_,_,h⟩
    ·rw [jdX];omega
    ·unfold uq;rw [List.getD_eq_getElem?_getD,List.getElem?_append_left h5,←List.getD_eq_getElem?_getD];exact h3
theorem jdy {w:World} {x:Rat} {k:Nat} (hx:Dz k x) (hk:0 < k) (hk2:k≤45000):Calls prog 39 #[bs (tq x)] w (Pz x.num (x.den:Int) (k+3) (k+3) w):=by
 have l1:=jb0 hx.num hk;have l2:=jb0 hx.den hk;obtain ⟨c, -, -,p1⟩:=jcy x.num.natAbs;obtain ⟨d, -, -,p2⟩:=jcy x.den;have hL:=jur hx hk
 have HA:∀W,Calls prog 83 #[bs (if x.num < 0 then 45::Lib.decDigits x.num.natAbs else Lib.decDigits x.num.natAbs)] W (RzP x.num (k+3) W):=fun W=>by
  split
  ·refine (jnD (jbv _) p1 (by omega) (Dig.val_digits _)).mono fun e w' ⟨v,he,hr,hb⟩=>⟨v,he, ?_,hb⟩
   obtain ⟨A,n,c,ds,h1,h2,h3,h4,h5,h6,h7⟩:=hr;rw [show -((x.num.natAbs:Nat):Int)=x.num by omega] at h1 h4;exact ⟨A,n,c,ds,h1,h2,h3,h4,h5,h6,by omega⟩
  ·refine (jbL (jbv _) p1 (by omega) (Dig.val_digits _)).mono fun e w' ⟨v,he,hr,hb⟩=>⟨v,he, ?_,hb⟩
   obtain ⟨A,n,c,ds,h1,h2,h3,h4,h5,h6,h7⟩:=hr;rw [show ((x.num.natAbs:Nat):Int)=x.num by omega] at h1 h4;exact ⟨A,n,c,ds,h1,h2,h3,h4,h5,h6,by omega⟩
 have hs:∀c∈(if x.num < 0 then 45::Lib.decDigits x.num.natAbs else Lib.decDigits x.num.natAbs),c≠47:=by
  intro c hc;split at hc
  ·rcases List.mem_cons.1 hc with e|e
   ·rw [e];decide
   ·exact jjT (by decide) c e
  ·exact jjT (by decide) c hc
 have ht:tq x=(if x.num < 0 then 45::Lib.decDigits x.num.natAbs else Lib.decDigits x.num.natAbs)++(if x.den=1 then [] else 47::Lib.decDigits x.den):=by
  rw [jcP];unfold uq;split <;> rfl
 obtain ⟨u,hu⟩:∃u,(if x.num < 0 then 45::Lib.decDigits x.num.natAbs else Lib.decDigits x.num.natAbs)=u:=⟨_,rfl⟩;rw [hu] at HA hs ht;by_cases h:x.den=1
 ·rw [if_pos h,List.append_nil] at ht;rw [ht] at hL ⊢;refine (jng (jk2 hs) (by omega) HA).mono fun e w' ⟨u,v,he,hr,ht,hb⟩=>⟨u,v,he,hr, ?_,hb⟩
  obtain ⟨A,n,c,ds,h1,h2,h3,h4,h5,h6,h7⟩:=ht;rw [h];exact ⟨A,n,c,ds,h1,h2,h3,h4,h5,h6,by omega⟩
 ·rw [if_neg h] at ht;have hul:u.length≤k+1:=by rw [←hu];split <;> (try rw [List.length_cons]) <;> omega
  have hsl:sl (tq x)=u.length:=by rw [ht];exact jk8 hs
  refine jfd (a:=u) (b:=Lib.decDigits x.den) hsl (by rw [ht];simp) (by omega) (by rw [ht,List.take_left]) (by rw [ht,←List.drop_drop,List.drop_left];rfl) HA (fun W=> ?_);refine (jbL (jbv _) p2 (by omega) (Dig.val_digits _)).mono fun e w' ⟨v,he,hr,hb⟩=>⟨v,he, ?_,hb⟩
  obtain ⟨A,n,c,ds,h1,h2,h3,h4,h5,h6,h7⟩:=hr;exact ⟨A,n,c,ds,h1,h2,h3,h4,h5,h6,by omega⟩
end Go.Proofs.YtfagcpcikjlboaaGreatDoor
