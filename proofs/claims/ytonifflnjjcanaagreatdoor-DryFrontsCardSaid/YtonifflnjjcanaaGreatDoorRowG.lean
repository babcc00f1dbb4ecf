/- Parts. -/
import Derived.Test.YtonifflnjjcanaaGreatDoorRows
import Derived.Test.YtonifflnjjcanaaGreatDoorCards
import Derived.Test.YtonifflnjjcanaaGreatDoorTie
import Derived.Test.YtonifflnjjcanaaGreatDoorAyG
import Derived.ProofKit
import Derived.OpenShut
import Derived.Carry
import Derived.Deep.DeepHandedRow
import Derived.Lib.LaidTab
import Derived.Stop.LaidErr
import Derived.Lay
import Derived.MakeChecks
import Derived.Shelf.Vars
import Derived.ChangeMaps5
import Derived.ChangeSame
import Derived.Deep.SlicePairs
set_option linter.all false
set_option maxRecDepth 100000
set_option maxHeartbeats 8000000
namespace Go.Proofs.YtonifflnjjcanaaGreatDoor
open Go Go.ChangeShapes Go.WideShapes Go.ChangeAt Go.RowKit Go.Proofs.Tryz

theorem own:ownKnob prog.godebug=none:=by kernel_rfl
theorem jix:laidOutB prog=true:=by kernel_rfl
theorem jw6 : prog.globalNamed "internal/strconv.uint64pow10" = some 5 := by kernel_rfl
theorem jpM:(prog.globals[5]?).map (·.type)=some 316:=by kernel_rfl
theorem jq2:prog.cellsOf 316=20:=by kernel_rfl
theorem joE:prog.cellsOf 204=1:=by kernel_rfl
theorem laidMetH.plain {l:List (String×DataW Unit)} {W:World} (h:laidMetH prog l W) (hp:(l.all fun x=>x.2.handleName?.isNone)=true):laidMet prog l W:=by
 rw [MakeChecks.laidMetH_plain _ _ _ hp] at h;exact h
theorem jtM {W : World} {l : List (String × DataW Unit)} (h : laidMet prog (("internal/strconv.uint64pow10", Rows.laid_internal_strconv_uint64pow10) :: l) W) (hs : W.ShapedOpen prog) : Env W := by
 obtain ⟨m,hm⟩:=Go.Proofs.cell_of_shapedOpen_int (g:=0) (zero:= #[.int .i64 0]) (t:=3) hs (of_decide_eq_true (by kernel_rfl)) (by kernel_rfl) rfl (by kernel_rfl) (by kernel_rfl) underlying3;exact ⟨Lib.tabBelow_of_tabIs (Lib.tabIs_of_head (zs:=Lib.pow10Tab) jw6 jpM underlying316 underlying204 joE jq2 h),⟨m,hm⟩,World.block_lt_of_cell? W ⟨0,0,none⟩ hm⟩
end Go.Proofs.YtonifflnjjcanaaGreatDoor
namespace Go.Proofs.YtonifflnjjcanaaGreatDoor
open Go Go.ChangeShapes Go.WideShapes Go.ChangeAt Go.RowKit Go.ChangeMaps


section
variable {H:Type} {enc:TypeId×Value→H} {W:World} {sp:Nat→Bool} {held:Bool} {r:Reach} {b0 base:Nat} {v:Value} {d:DataW H} {ps:List MemPlace}
end
end Go.Proofs.YtonifflnjjcanaaGreatDoor
namespace Go.Proofs.YtonifflnjjcanaaGreatDoor
open Go Go.ChangeShapes Go.WideShapes Go.ChangeAt Go.RowKit Go.ChangeMaps Go.Deep Go.Joins Go.Proofs.Tryz

theorem jxP {H:Type} {enc:TypeId×Value→H} {W:World} {A:Option Addr} {n c fuel:Nat} {x:DataW H×List MemPlace} (h:DataW.trod enc prog W 0 (fun _=>true) true fuel 22 [.slice A n c]=some x):(∃ls,Hv6 W A n ls)∧n≤c:=by
 rcases Go.Deep.open_slice_pairs underlying22 underlying101 (by kernel_rfl) rfl rfl (by kernel_rfl) (by kernel_rfl) h with ⟨hcs,_⟩|⟨a,len,cap,m,fu,V0,V1,D0,D1,P0,P1,hcs,_,hl,hm,hz,_,hcell⟩
 ·simp at hcs;obtain ⟨rfl,rfl,rfl⟩:=hcs;exact ⟨⟨[],rfl,fun h=>by omega⟩,Nat.le_refl _⟩
 ·simp at hcs;obtain ⟨rfl,rfl,rfl⟩:=hcs;simp only [if_true] at hz;obtain ⟨b,off,spot⟩:=a
  have s0:∀i,i < m→∃s:Int,V0 i= .int .i64 s:=fun i hi=>by
   obtain ⟨s,h1,_,_⟩:=DataW.trod_int underlying3 (hcell i hi).2.2.1;exact ⟨s,by simpa using h1⟩
  have s1:∀i,i < m→∃s:Int,V1 i= .int .i64 s:=fun i hi=>by
   obtain ⟨s,h1,_,_⟩:=DataW.trod_int underlying3 (hcell i hi).2.2.2;exact ⟨s,by simpa using h1⟩
  let num:Value→Int:=fun v=>match v with | .int _ s=>s | _=>0
  refine ⟨⟨(List.range n).map fun i=>(num (V0 i),num (V1 i)),by simp,fun h0=> ?_⟩,hl⟩;have hspot:spot=none:=by simpa [Addr.add] using World.cell?_spot (hcell 0 (by omega)).1
  subst hspot;have e0:∀i,(⟨b,off,none⟩:Addr).add i=⟨b,off+i,none⟩:=fun i=>by unfold Addr.add;split <;> simp_all
  refine ⟨b,off,rfl,World.block_lt_of_cell? W _ (hcell 0 (by omega)).1,fun j hj=> ?_⟩;rw [List.length_map,List.length_range] at hj;have hj':j < m:=by omega
  obtain ⟨c0,c1,_,_⟩:=hcell j hj';obtain ⟨t0,q0⟩:=s0 j hj';obtain ⟨t1,q1⟩:=s1 j hj';rw [e0,q0] at c0;rw [e0,q1] at c1;rw [List.getD_eq_getElem?_getD,List.getElem?_map,List.getElem?_range hj,Option.map_some,Option.getD_some,c0,q0,q1];rw [←Nat.add_assoc] at c1;rw [c1];exact ⟨rfl,rfl⟩
theorem jxc {H:Type} {enc:TypeId×Value→H} {W:World} {sp:Nat→Bool} {held:Bool} {r:Reach} {b0 base:Nat} {v:Value} {d:DataW H} {ps:List MemPlace} (hval:Value.okWide prog W r b0 24 v) (hd:DataW.Trod enc prog W base sp held 24 v d ps):
  ∃x:Clim,v=clv x∧ps=[]:=by
 have hc:prog.cellsOf 24=4:=by kernel_rfl
 obtain ⟨f0,f1,f2,f3,hu,e0,e1,e2,e3⟩:∃f0 f1 f2 f3:Field,prog.underlying 24=some (.struct #[f0,f1,f2,f3])∧f0.type=3∧f1.type=3∧f2.type=3∧f3.type=3:=⟨_,_,_,_,underlying24,rfl,rfl,rfl,rfl⟩
 have hone:oneCellFields prog #[f0,f1,f2,f3]=true:=by
  have:(match prog.underlying 24 with|some (.struct fs)=>oneCellFields prog fs | _=>false)=true:=by kernel_rfl
  rw [hu] at this;exact this
 obtain ⟨v0,v1,v2,v3,y0,y1,y2,y3,n,rfl,_,hp,h0,h1,h2,h3⟩:=open_agg4 hu hone hc hval hd;rw [e0] at h0;rw [e1] at h1;rw [e2] at h2;rw [e3] at h3;obtain ⟨z0,k0,x0,_⟩:=DataW.trod_int underlying3 h0;obtain ⟨z1,k1,x1,_⟩:=DataW.trod_int underlying3 h1;obtain ⟨z2,k2,x2,_⟩:=DataW.trod_int underlying3 h2;obtain ⟨z3,k3,x3,_⟩:=DataW.trod_int underlying3 h3;simp at k0 k1 k2 k3;subst k0 k1 k2 k3;exact ⟨⟨z0,z1,z2,z3⟩,rfl,by rw [hp,x0,x1,x2,x3];rfl⟩
abbrev jyC (a b d:List UInt8):Value:= .agg #[bs a,bs b,bs d]
theorem jyi {H:Type} {enc:TypeId×Value→H} {W:World} {sp:Nat→Bool} {held:Bool} {r:Reach} {b0 base:Nat} {v:Value} {d:DataW H} {ps:List MemPlace} (hval:Value.okWide prog W r b0 29 v) (hd:DataW.Trod enc prog W base sp held 29 v d ps):
  ∃a b c:List UInt8,v=jyC a b c∧ps=[]:=by
 have hc:prog.cellsOf 29=3:=by kernel_rfl
 have ce:prog.cellsOf 27=2:=by kernel_rfl
 have hs:prog.underlying 25=some .string:=by kernel_rfl
 have cr:prog.cellsOf 25=1:=by kernel_rfl
 obtain ⟨f0,f1,hu,ht0,ht1,ho0,ho1⟩:∃f0 f1:Field,prog.underlying 27=some (.struct #[f0,f1])∧f0.type=25∧f1.type=25∧f0.offset=0∧f1.offset=1:=⟨_,_,underlying27,rfl,rfl,rfl,rfl⟩;obtain ⟨e0,e1,hv,gt0,gt1,go0,go1⟩:∃f0 f1:Field,prog.underlying 29=some (.struct #[f0,f1])∧f0.type=27∧f1.type=25∧f0.offset=0∧f1.offset=2:=⟨_,_,underlying29,rfl,rfl,rfl,rfl⟩;obtain ⟨cs,rfl,hcs⟩:=okWide_struct hv hval;rw [hc] at hcs
 obtain ⟨u0,u1,u2,rfl⟩:∃a b c,cs= #[a,b,c]:=by
  match cs,hcs with
  | ⟨[a,b,c]⟩,_=>exact ⟨a,b,c,rfl⟩
 obtain ⟨fuel,hf⟩:=hd;obtain ⟨y0,y1,n,hx,_,g0,g1⟩:=trod_struct2 hv hf;rw [gt0,ce,go0] at g0;rw [gt1,cr,go1] at g1;obtain ⟨s2,k2,x2,_⟩:=DataW.trod_string hs g1;simp [Value.cells] at g0 k2;obtain ⟨z0,z1,n',hx',_,m0,m1⟩:=trod_struct2 hu g0;rw [ht0,cr,ho0] at m0;rw [ht1,cr,ho1] at m1;obtain ⟨s0,k0,x0,_⟩:=DataW.trod_string hs m0;obtain ⟨s1,k1,x1,_⟩:=DataW.trod_string hs m1;have hp:=congrArg Prod.snd hx;have hp':=congrArg Prod.snd hx';rw [x0,x1] at hp';simp [Value.cells] at k0 k1 hp hp';rw [hp',x2] at hp;simp at hp;subst k0 k1 k2 hp;exact ⟨s0.data.toList,s1.data.toList,s2.data.toList,rfl,rfl⟩
end Go.Proofs.YtonifflnjjcanaaGreatDoor
namespace Go.Proofs.YtonifflnjjcanaaGreatDoor
open Go Go.ChangeShapes Go.WideShapes Go.ChangeAt Go.RowKit Go.Proofs.Tryz

theorem jxQ (os:Os):laidMet prog Rows.dryFrontsRow.laid ((World.laidAll prog os Rows.dryFrontsRow.laid).forCall (fun _ _=>0) ⟨#[], #[.slice none 0 0, .agg #[.int .i64 0, .int .i64 0, .int .i64 0, .int .i64 0], .agg #[.string ⟨#[]⟩, .string ⟨#[]⟩, .string ⟨#[]⟩]],[]⟩).memory:=
 laidMet_laidAll _ (by kernel_rfl) (by kernel_rfl)
theorem jxk (os:Os) {H:Type} (enc:TypeId×Value→H):∃places,DataW.whole enc prog ((World.laidAll prog os Rows.dryFrontsRow.laid).forCall (fun _ _=>0) ⟨#[], #[.slice none 0 0, .agg #[.int .i64 0, .int .i64 0, .int .i64 0, .int .i64 0], .agg #[.string ⟨#[]⟩, .string ⟨#[]⟩, .string ⟨#[]⟩]],[]⟩).memory Tryz.f3.params.toList Rows.dryFrontsSpec.vars false #[Value.slice none 0 0, .agg #[.int .i64 0, .int .i64 0, .int .i64 0, .int .i64 0], .agg #[.string ⟨#[]⟩, .string ⟨#[]⟩, .string ⟨#[]⟩]].toList 8=some ([.nil, .agg [.lit (.int .i64 0), .lit (.int .i64 0), .lit (.int .i64 0), .lit (.int .i64 0)], .agg [.agg [.lit (.string []), .lit (.string [])], .lit (.string [])]],[],places):=
 ⟨[],by kernel_rfl⟩
theorem jwQ (H:Type) (enc:TypeId×Value→H) (W:World) (base:Nat) (args:Array Value) (ds gs:List (DataW H)) (before:List MemPlace)
  (hval:∀(j:Nat) t v,Tryz.f3.params[j]? =some t→args[j]? =some v→Value.okWide prog W .any base t v)
  (hW:DataW.Whole enc prog Tryz.f3.params.toList Rows.dryFrontsSpec.vars false W args.toList ds gs before) (hL:laidMetH prog Rows.dryFrontsRow.laid W) (hS:W.ShapedOpen prog):
  Calls prog 3 args W fun e W'=>∃v,e= .returned v∧Rows.dryFrontsSpec.post enc prog Tryz.f3 false true false false W args v W':=by
 have hE:Env W:=jtM (laidMetH.plain hL (by kernel_rfl)).tail.tail hS;have hW':=hW;obtain ⟨p,q,hA0,hV,rfl,hfz,hnd⟩:=hW;have hA:DataW.TrodAll enc prog W 0 (fun _=>true) true Tryz.f3.params.toList args.toList ds p:=hA0;rw [params3] at hA hval;obtain ⟨v0,v1,v2,d0,d1,d2,p0,p1,p2,rfl,rfl,rfl,h0,h1,h2⟩:=trodAll_three hA;obtain ⟨rfl,rfl⟩:=trodVars_none hV;obtain ⟨A0,n0,c0,rfl⟩:=okWide_slice underlying22 (hval 0 22 v0 rfl rfl);have h0k:=h0;obtain ⟨fuel0,hf0⟩:=h0;obtain ⟨x1,rfl,rfl⟩:=jxc (hval 1 24 v1 rfl rfl) h1;obtain ⟨a2,b2,e2,rfl,rfl⟩:=jyi (hval 2 29 v2 rfl rfl) h2;simp only [List.append_nil,List.nil_append] at hW';have hlt0:∀y∈p0,y.block < W.heap.size:=fun y hy=>by simpa using hW'.lt y (by simp [hy])
 obtain ⟨⟨ls0,hv0⟩,hc0⟩:=jxP hf0;have walk:Calls prog 3 #[.slice A0 n0 c0,clv x1,jyC a2 b2 e2] W fun e w'=>e= .returned (.bool true)∧Below W.heap.size W w':=jxr hE hv0 hc0 x1 
 refine walk.mono fun e W' ⟨he,hb⟩=> ?_
 subst he;exact ⟨_,rfl,_,_,_,[],p0,[],hW',trodAll_mk1 (shut_bool underlying4 _),(by have h:=trodAll_mk3 (p:=p0) (p':=[]) (p'':=[]) (Below.trod jix (by kernel_rfl) (of_decide_eq_true (by kernel_rfl)) h0k hb hlt0) (Below.trod jix (by kernel_rfl) (of_decide_eq_true (by kernel_rfl)) h1 hb (fun y hy=>by cases hy)) (Below.trod jix (by kernel_rfl) (of_decide_eq_true (by kernel_rfl)) h2 hb (fun y hy=>by cases hy));first|exact h|(simp only [List.append_nil,List.nil_append] at h;exact h)),rfl,hb.frame _,fun h=>by cases h⟩
theorem jx2 (os:Os) (started:os.Started) (H:Type) (enc:TypeId×Value→H) (F:Stop.Interp):
  ReturnsInHanded {} Tryz.checked os 3 .any ((OpenSpec.ofChange Rows.dryFrontsSpec).preRow enc prog Tryz.f3 Rows.dryFrontsRow.domain false Rows.dryFrontsRow.laid) (((OpenSpec.ofChange Rows.dryFrontsSpec).at F).post enc prog Tryz.f3 false true false false):=by
 obtain ⟨places,hx⟩:=jxk os enc
 refine returnsInHanded_of_row (C:=Tryz.checked) (s:=OpenSpec.ofChange Rows.dryFrontsSpec) own started (by kernel_rfl) func3
  (witness_row_at (enc:=enc) (C:=Tryz.checked) false (World.laidAll prog os Rows.dryFrontsRow.laid) #[.slice none 0 0, .agg #[.int .i64 0, .int .i64 0, .int .i64 0, .int .i64 0], .agg #[.string ⟨#[]⟩, .string ⟨#[]⟩, .string ⟨#[]⟩]] (World.laidAll_os _ _ _) (by kernel_rfl) (by kernel_rfl) (by kernel_rfl)
    (OpenSpec.preRow_of_cond 8 hx (by kernel_rfl) (fun k hk=>by cases hk) (by kernel_rfl) (by rw [MakeChecks.laidMetH_plain _ _ _ (by kernel_rfl)];exact jxQ os))) ?_
 intro W base args ds gs before hval hW _ _ _ hL hS _;exact jwQ H enc W base args ds gs before hval hW hL hS
theorem jy9:(Rows.dryFrontsRow.inPlace==Tryz.pinned.checked.prog.inPlace 3)=true:=by kernel_rfl
theorem jy0:(Rows.dryFrontsRow.unfollowed==Tryz.pinned.checked.prog.unfollowed 3)=true:=by kernel_rfl
theorem jxT:(Rows.dryFrontsRow.recurses==Tryz.pinned.checked.prog.recurses 3)=true:=by kernel_rfl
theorem jxS:(Rows.dryFrontsRow.named==Tryz.pinned.checked.prog.varsNamed 3)=true:=by kernel_rfl
theorem jx4:joinedFacts Tryz.pinned.checked.prog 3 Tryz.f3 (OpenSpec.ofChange Rows.dryFrontsSpec).bare Rows.dryFrontsRow=true:=by
 unfold joinedFacts;rw [jy9,jy0,jxT,jxS]
 kernel_rfl
theorem jxq:Rows.DryFrontsSaid:=
 OpenClaim.holds_of_cond 3 Tryz.f3 rfl rfl rfl rfl rfl rfl rfl ⟨rfl,rfl,rfl,rfl,rfl⟩ rfl rfl rfl rfl rfl (by kernel_rfl) func3 jx4
  (of_decide_eq_true (by kernel_rfl)) (by unfold Func.isWrapper;first|(rw [if_pos (by decide+kernel)];kernel_rfl)|(rw [if_neg (by decide+kernel)];exact ⟨rfl,rfl⟩))
  (fun os started H enc _ F=>by rw [OpenClaim.pre_eq_preRow];exact jx2 os started H enc F)
theorem jxe (f : FuncId) (fn : Func) (hf : Tryz.pinned.checked.prog.funcNamed "bushel/bushellaw06.DryFronts" = some f) (hfn : Tryz.pinned.checked.prog.funcs[f]? = some fn) :
  true=Tryz.pinned.checked.prog.looks []∧∀(j:Nat) t,fn.params[j]? =some t→Tryz.pinned.checked.prog.wantsStandIn t=false:=by
 obtain rfl : f = 3 := Option.some.inj ((show prog.funcNamed "bushel/bushellaw06.DryFronts" = some 3 by kernel_rfl).symm.trans hf) |>.symm
 obtain rfl:fn=Tryz.f3:=(Option.some.inj (func3.symm.trans hfn)).symm;refine ⟨by kernel_rfl,fun j t ht=> ?_⟩;rw [params3] at ht;have hm:t∈ [22,24,29]:=by simpa using Array.mem_of_getElem? ht
 have hall:([22,24,29].all fun u=> !prog.wantsStandIn u)=true:=by kernel_rfl
 exact (show prog.wantsStandIn t=false by simpa using List.all_eq_true.1 hall t hm)
theorem fronts_card:Rows.DryFrontsCardSaid:=
 Claim7.holds_tied_plain_at .later [] _ _ _ _ jxq (fun _ h=>by cases h) (by kernel_rfl) (fun _ h=>by cases h) dryFronts_row_tie rfl ⟨rfl,rfl⟩ (by kernel_rfl) rfl jxe (by kernel_rfl)
#print axioms fronts_card
end Go.Proofs.YtonifflnjjcanaaGreatDoor
