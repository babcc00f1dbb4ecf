/- Parts. -/
import Derived.Test.YteokfcjdfjhhhaaGreatDoorRv
import Derived.Test.YteokfcjdfjhhhaaGreatDoorObG
import Derived.Deep.SlicePairs
import Derived.ChangeMaps5
import Derived.ChangeSame
set_option linter.all false
set_option maxRecDepth 100000
set_option maxHeartbeats 8000000
namespace Go.Proofs.YteokfcjdfjhhhaaGreatDoor
open Go Go.ChangeShapes Go.WideShapes Go.ChangeAt Go.RowKit Go.ChangeMaps

section
variable {H:Type} {enc:TypeId×Value→H} {W:World}
theorem ji7 {v:Value} {fuel:Nat} {x:DataW H×List MemPlace} (h:DataW.trod enc Tryz.prog W 0 (fun _=>true) true fuel 27 [v]=some x):∃A n c ls,v= .slice A n c∧Pv W A n ls:=by
 rcases Go.Deep.open_slice_pairs Tryz.underlying27 Tryz.underlying42 (by kernel_rfl) rfl rfl (by kernel_rfl) (by kernel_rfl) h with ⟨hcs,_⟩|⟨a,len,cap,m,fu,V0,V1,D0,D1,P0,P1,hcs,_,hl,hm,hz,_,hcell⟩
 ·simp at hcs;subst hcs;exact ⟨none,0,0,[],rfl,rfl,fun h=>by omega⟩
 ·simp at hcs;subst hcs;simp only [if_true] at hz;obtain ⟨b,off,spot⟩:=a
  have s0:∀i,i < m→∃s:ByteArray,V0 i= .string s:=fun i hi=>by
   obtain ⟨s,h1,_,_⟩:=DataW.trod_string Tryz.underlying9 (hcell i hi).2.2.1;exact ⟨s,by simpa using h1⟩
  have s1:∀i,i < m→∃s:ByteArray,V1 i= .string s:=fun i hi=>by
   obtain ⟨s,h1,_,_⟩:=DataW.trod_string Tryz.underlying40 (hcell i hi).2.2.2;exact ⟨s,by simpa using h1⟩
  let txt:Value→List UInt8:=fun v=>match v with | .string s=>s.data.toList | _=> []
  refine ⟨some ⟨b,off,spot⟩,len,cap,(List.range len).map fun i=>(txt (V0 i),txt (V1 i)),rfl,by simp,fun h0=> ?_⟩;have hspot:spot=none:=by simpa [Addr.add] using World.cell?_spot (hcell 0 (by omega)).1
  subst hspot;refine ⟨b,off,rfl,World.block_lt_of_cell? W _ (hcell 0 (by omega)).1,fun j hj=> ?_⟩;have hj':j < m:=by omega
  obtain ⟨c0,c1,_,_⟩:=hcell j hj';obtain ⟨t0,e0⟩:=s0 j hj';obtain ⟨t1,e1⟩:=s1 j hj';rw [add_plain,e0] at c0;rw [add_plain,e1] at c1;rw [List.getD_eq_getElem?_getD,List.getElem?_map,List.getElem?_range hj,Option.map_some,Option.getD_some,c0,e0,e1];rw [←Nat.add_assoc] at c1;rw [c1];exact ⟨rfl,rfl⟩
theorem jiD {A:Option Addr} {n c fuel:Nat} {x:DataW H×List MemPlace} (h:DataW.trod enc Tryz.prog W 0 (fun _=>true) true fuel 22 [.slice A n c]=some x):∃ls,Lv W A n ls∧∀y∈ls,R64 y.mass:=by
 rcases Go.Deep.open_slice Tryz.underlying22 h with ⟨hcs,_⟩|⟨a,len,cap,m,fu,D,Pl,hcs,_,hl,hm,hz,_,hx⟩
 ·simp at hcs;obtain ⟨rfl,rfl,rfl⟩:=hcs;exact ⟨[],⟨rfl,fun h=>by omega⟩,fun y hy=>by simp at hy⟩
 ·simp at hcs;obtain ⟨rfl,rfl,rfl⟩:=hcs;simp only [if_true] at hz;obtain ⟨b,off,spot⟩:=a;have hc:Tryz.prog.cellsOf 29=3:=by kernel_rfl
  have hs:Tryz.prog.cellsOf 9=1:=by kernel_rfl
  have hi:Tryz.prog.cellsOf 3=1:=by kernel_rfl
  have hw:Tryz.prog.cellsOf 27=1:=by kernel_rfl
  obtain ⟨f0,f1,f2,hu,ht0,ht1,ht2,ho0,ho1,ho2⟩:∃f0 f1 f2:Field,Tryz.prog.underlying 29=some (.struct #[f0,f1,f2])∧f0.type=9∧f1.type=3∧f2.type=27∧f0.offset=0∧f1.offset=1∧f2.offset=2:=⟨_,_,_,Tryz.underlying29,rfl,rfl,rfl,rfl,rfl,rfl⟩;rcases Nat.eq_zero_or_pos n with h0|h0
  ·subst h0;exact ⟨[],⟨rfl,fun h=>by omega⟩,fun y hy=>by simp at hy⟩
  have hspot:spot=none:=by
   obtain ⟨cs',h1,_⟩:=hx 0 (by omega);rw [hc] at h1;obtain ⟨_,hlen,hcell⟩:=World.cells?_some h1
   match cs',hlen with
   | [v0,v1,v2],_=>
     have e0:=hcell 0 (by omega);simpa [Addr.add] using World.cell?_spot e0
  subst hspot
  have each:∀i,i < n→∃y:Lay,R64 y.mass∧b < W.heap.size∧LyAt W b (off+i*3) y:=by
   intro i hin;obtain ⟨cs',h1,h2⟩:=hx i (by omega);rw [hc] at h1;obtain ⟨_,hlen,hcell⟩:=World.cells?_some h1
   obtain ⟨xs,k,hk,hxy,_,hxl,hf⟩:=DataW.trod_struct hu h2
   match xs,hxl,cs',hlen with
   | [y0,y1,y2],_,[v0,v1,v2],_=>
     have g0:=hf 0 f0 rfl;have g1:=hf 1 f1 rfl;have g2:=hf 2 f2 rfl;rw [ht0,hs,ho0] at g0;rw [ht1,hi,ho1] at g1;rw [ht2,hw,ho2] at g2;obtain ⟨s,k0,_,_⟩:=DataW.trod_string Tryz.underlying9 g0;obtain ⟨z,k1,_,w1⟩:=DataW.trod_int Tryz.underlying3 g1;simp at k0 k1;subst k0 k1;obtain ⟨B,l,d,ps,k2,hv⟩:=ji7 (by simpa using g2);subst k2;have e0:=hcell 0 (by omega);have e1:=hcell 1 (by omega);have e2:=hcell 2 (by omega);rw [Go.Deep.add_add] at e0 e1 e2;rw [add_plain] at e0 e1 e2;simp only [Nat.add_zero] at e0;have hl2:=hv.len;subst hl2;rw [←Nat.add_assoc] at e1 e2;refine ⟨⟨s.data.toList,z,ps⟩, ?_,World.block_lt_of_cell? W _ e0,⟨B,d,by simpa using e0,by simpa using e1,by simpa using e2,hv⟩⟩;simp [Lit.wf,IntKind.min,IntKind.max,IntKind.signed,IntKind.bits] at w1;unfold R64;dsimp only;omega
  have:Inhabited Lay:=⟨jaA⟩;obtain ⟨f,hf⟩:=Go.Deep.choose_lt each;refine ⟨(List.range n).map f,⟨by simp,fun _=> ?_⟩,fun y hy=> ?_⟩
  ·obtain ⟨_,hb,_⟩:=hf 0 h0;refine ⟨b,off,rfl,hb,fun j hj=> ?_⟩;rw [List.getD_eq_getElem?_getD,List.getElem?_map,List.getElem?_range hj];exact (hf j hj).2.2
  ·obtain ⟨i,hi',rfl⟩:=List.mem_map.1 hy;exact (hf i (List.mem_range.1 hi')).1
end
end Go.Proofs.YteokfcjdfjhhhaaGreatDoor
