/- Parts. -/
import Derived.Test.YtpkcjfpgemdfdaaGreatDoorRows
import Derived.Test.YtpkcjfpgemdfdaaGreatDoorCards
import Derived.Test.YtpkcjfpgemdfdaaGreatDoorTie
import Derived.Test.YtpkcjfpgemdfdaaGreatDoorHvG
import Derived.ProofKit
import Derived.OpenShut
import Derived.Carry
import Derived.Deep.DeepHandedRow
import Derived.Lib.LaidTab
import Derived.Stop.LaidErr
import Derived.Lay
import Derived.MakeChecks
import Derived.Shelf.Vars
import Derived.ChangeMaps5
import Derived.ChangeSame
import Derived.Deep.SlicePairs
set_option linter.all false
set_option maxRecDepth 100000
set_option maxHeartbeats 8000000
namespace Go.Proofs.YtpkcjfpgemdfdaaGreatDoor
open Go Go.ChangeShapes Go.WideShapes Go.ChangeAt Go.RowKit Go.Proofs.Tryz

theorem own:ownKnob prog.godebug=none:=by kernel_rfl
theorem jix:laidOutB prog=true:=by kernel_rfl
theorem jw6 : prog.globalNamed "internal/strconv.uint64pow10" = some 5 := by kernel_rfl
theorem jpM:(prog.globals[5]?).map (·.type)=some 304:=by kernel_rfl
theorem jq2:prog.cellsOf 304=20:=by kernel_rfl
theorem joE:prog.cellsOf 208=1:=by kernel_rfl
theorem laidMetH.plain {l:List (String×DataW Unit)} {W:World} (h:laidMetH prog l W) (hp:(l.all fun x=>x.2.handleName?.isNone)=true):laidMet prog l W:=by
 rw [MakeChecks.laidMetH_plain _ _ _ hp] at h;exact h
theorem jtM {W : World} {l : List (String × DataW Unit)} (h : laidMet prog (("internal/strconv.uint64pow10", Rows.laid_internal_strconv_uint64pow10) :: l) W) (hs : W.ShapedOpen prog) : Env W := by
 obtain ⟨m,hm⟩:=Go.Proofs.cell_of_shapedOpen_int (g:=0) (zero:= #[.int .i64 0]) (t:=3) hs (of_decide_eq_true (by kernel_rfl)) (by kernel_rfl) rfl (by kernel_rfl) (by kernel_rfl) underlying3;exact ⟨Lib.tabBelow_of_tabIs (Lib.tabIs_of_head (zs:=Lib.pow10Tab) jw6 jpM underlying304 underlying208 joE jq2 h),⟨m,hm⟩,World.block_lt_of_cell? W ⟨0,0,none⟩ hm⟩
end Go.Proofs.YtpkcjfpgemdfdaaGreatDoor
namespace Go.Proofs.YtpkcjfpgemdfdaaGreatDoor
open Go Go.ChangeShapes Go.WideShapes Go.ChangeAt Go.RowKit Go.ChangeMaps

end Go.Proofs.YtpkcjfpgemdfdaaGreatDoor
namespace Go.Proofs.YtpkcjfpgemdfdaaGreatDoor
open Go Go.ChangeShapes Go.WideShapes Go.ChangeAt Go.RowKit Go.Proofs.Tryz

theorem jz7 {H:Type} {enc:TypeId×Value→H} {W:World} {A:Option Addr} {n c fuel:Nat} {x:DataW H×List MemPlace} (h:DataW.trod enc prog W 0 (fun _=>true) true fuel 22 [.slice A n c]=some x):∃ls,Pv W A n ls∧(n < 9223372036854775808∧n≤c):=by
 rcases Go.Deep.open_slice_pairs underlying22 underlying38 (by kernel_rfl) rfl rfl (by kernel_rfl) (by kernel_rfl) h with ⟨hcs,_⟩|⟨a,len,cap,m,fu,V0,V1,D0,D1,P0,P1,hcs,_,hl,hm,hz,_,hcell⟩
 ·simp at hcs;obtain ⟨rfl,rfl,rfl⟩:=hcs;exact ⟨[],⟨rfl,fun h=>by omega⟩,by omega,Nat.le_refl _⟩
 ·simp at hcs;obtain ⟨rfl,rfl,rfl⟩:=hcs;simp only [if_true] at hz;obtain ⟨b,off,spot⟩:=a
  have s0:∀i,i < m→∃s:ByteArray,V0 i= .string s:=fun i hi=>by
   obtain ⟨s,h1,_,_⟩:=DataW.trod_string underlying23 (hcell i hi).2.2.1;exact ⟨s,by simpa using h1⟩
  have s1:∀i,i < m→∃s:ByteArray,V1 i= .string s:=fun i hi=>by
   obtain ⟨s,h1,_,_⟩:=DataW.trod_string underlying23 (hcell i hi).2.2.2;exact ⟨s,by simpa using h1⟩
  let txt:Value→List UInt8:=fun v=>match v with | .string s=>s.data.toList | _=> []
  refine ⟨(List.range n).map fun i=>(txt (V0 i),txt (V1 i)),⟨by simp,fun h0=> ?_⟩,by unfold maxLen at hm;omega,hl⟩;have hspot:spot=none:=by simpa [Addr.add] using World.cell?_spot (hcell 0 (by omega)).1
  subst hspot;refine ⟨b,off,rfl,World.block_lt_of_cell? W _ (hcell 0 (by omega)).1,fun j hj=> ?_⟩;have hj':j < m:=by omega
  obtain ⟨c0,c1,_,_⟩:=hcell j hj';obtain ⟨t0,e0⟩:=s0 j hj';obtain ⟨t1,e1⟩:=s1 j hj';rw [add_plain,e0] at c0;rw [add_plain,e1] at c1;rw [List.getD_eq_getElem?_getD,List.getElem?_map,List.getElem?_range hj,Option.map_some,Option.getD_some,c0,e0,e1];rw [←Nat.add_assoc] at c1;rw [c1];exact ⟨rfl,rfl⟩
section
variable {H:Type} {enc:TypeId×Value→H} {W:World} {sp:Nat→Bool} {held:Bool} {r:Reach} {b0 base:Nat} {v:Value} {d:DataW H} {ps:List MemPlace}
theorem jz0 {n:Nat} {t e:TypeId} (ht:prog.underlying t=some (.array n e)) (h:Value.okWide prog W r b0 t v):∃cs:Array Value,v= .agg cs∧cs.size=prog.cellsOf t:=by
 simp only [Value.okWide,ht] at h;obtain ⟨cs,h1,h2,_⟩:=h;exact ⟨cs,h1,h2⟩
theorem jzl (hval:Value.okWide prog W r b0 24 v) (hd:DataW.Trod enc prog W base sp held 24 v d ps):
  ∃a1 a2 a3:List UInt8,v= .agg #[bs a1,bs a2,bs a3]∧ps=[]:=by
 have ht:prog.underlying 24=some (.array 3 23):=by kernel_rfl
 have hs:prog.underlying 23=some .string:=by kernel_rfl
 have hc:prog.cellsOf 24=3:=by kernel_rfl
 have ce:prog.cellsOf 23=1:=by kernel_rfl
 obtain ⟨cs,rfl,hcs⟩:=jz0 ht hval;rw [hc] at hcs
 obtain ⟨a,b,c,rfl⟩:∃a b c,cs= #[a,b,c]:=by
  match cs,hcs with
  | ⟨[a,b,c]⟩,_=>exact ⟨a,b,c,rfl⟩
 obtain ⟨fuel,hf⟩:=hd;obtain ⟨xs,m,_,hx,_,hl,hi⟩:=DataW.trod_array ht hf;rw [ce] at hi
 match xs,hl with
 | [y0,y1,y2],_=>
   obtain ⟨s0,k0,x0,_⟩:=DataW.trod_string hs (x:=y0) (hi 0 (by omega));obtain ⟨s1,k1,x1,_⟩:=DataW.trod_string hs (x:=y1) (hi 1 (by omega));obtain ⟨s2,k2,x2,_⟩:=DataW.trod_string hs (x:=y2) (hi 2 (by omega));have hp:=congrArg Prod.snd hx;rw [x0,x1,x2] at hp;simp [Value.cells] at k0 k1 k2 hp;subst k0 k1 k2 hp;exact ⟨s0.data.toList,s1.data.toList,s2.data.toList,rfl,rfl⟩
end

theorem jzz (os:Os):laidMet prog Rows.dryAreasRow.laid ((World.laidAll prog os Rows.dryAreasRow.laid).forCall (fun _ _=>0) ⟨#[], #[.slice none 0 0, .agg #[.string ⟨#[]⟩, .string ⟨#[]⟩, .string ⟨#[]⟩]],[]⟩).memory:=
 laidMet_laidAll _ (by kernel_rfl) (by kernel_rfl)
theorem jz8 (os:Os) {H:Type} (enc:TypeId×Value→H):∃places,DataW.whole enc prog ((World.laidAll prog os Rows.dryAreasRow.laid).forCall (fun _ _=>0) ⟨#[], #[.slice none 0 0, .agg #[.string ⟨#[]⟩, .string ⟨#[]⟩, .string ⟨#[]⟩]],[]⟩).memory Tryz.f3.params.toList Rows.dryAreasSpec.vars false #[Value.slice none 0 0, .agg #[.string ⟨#[]⟩, .string ⟨#[]⟩, .string ⟨#[]⟩]].toList 8=some ([.nil, .agg [.lit (.string []), .lit (.string []), .lit (.string [])]],[],places):=
 ⟨[],by kernel_rfl⟩
theorem jyU (H:Type) (enc:TypeId×Value→H) (W:World) (base:Nat) (args:Array Value) (ds gs:List (DataW H)) (before:List MemPlace)
  (hval:∀(j:Nat) t v,Tryz.f3.params[j]? =some t→args[j]? =some v→Value.okWide prog W .any base t v)
  (hW:DataW.Whole enc prog Tryz.f3.params.toList Rows.dryAreasSpec.vars false W args.toList ds gs before) (hL:laidMetH prog Rows.dryAreasRow.laid W) (hS:W.ShapedOpen prog):
  Calls prog 3 args W fun e W'=>∃v,e= .returned v∧Rows.dryAreasSpec.post enc prog Tryz.f3 false true false false W args v W':=by
 have hE:Env W:=jtM (laidMetH.plain hL (by kernel_rfl)).tail.tail hS;have hW':=hW;obtain ⟨p,q,hA0,hV,rfl,hfz,hnd⟩:=hW;have hA:DataW.TrodAll enc prog W 0 (fun _=>true) true Tryz.f3.params.toList args.toList ds p:=hA0;rw [params3] at hA hval;obtain ⟨v0,v1,d0,d1,p0,p1,rfl,rfl,rfl,h0,h1⟩:=trodAll_two hA;obtain ⟨rfl,rfl⟩:=trodVars_none hV;obtain ⟨A0,n0,c0,rfl⟩:=okWide_slice underlying22 (hval 0 22 v0 rfl rfl);have h0k:=h0;obtain ⟨fuel0,hf0⟩:=h0;obtain ⟨a1,b1,e1,rfl,rfl⟩:=jzl (hval 1 24 v1 rfl rfl) h1;simp only [List.append_nil,List.nil_append] at hW';have hlt0:∀y∈p0,y.block < W.heap.size:=fun y hy=>by simpa using hW'.lt y (by simp [hy])
 obtain ⟨ls0,hv0,hc0⟩:=jz7 hf0;have walk:Calls prog 3 #[.slice A0 n0 c0, .agg #[bs a1,bs b1,bs e1]] W fun e w'=>e= .returned (.bool true)∧Below W.heap.size W w':=jzn hE hv0 hc0 
 refine walk.mono fun e W' ⟨he,hb⟩=> ?_
 subst he;exact ⟨_,rfl,_,_,_,[],p0,[],hW',trodAll_mk1 (shut_bool underlying4 _),(by have h:=trodAll_mk2 (p:=p0) (p':=[]) (Below.trod jix (by kernel_rfl) (of_decide_eq_true (by kernel_rfl)) h0k hb hlt0) (Below.trod jix (by kernel_rfl) (of_decide_eq_true (by kernel_rfl)) h1 hb (fun y hy=>by cases hy));first|exact h|(simp only [List.append_nil,List.nil_append] at h;exact h)),rfl,hb.frame _,fun h=>by cases h⟩
theorem jyY (os:Os) (started:os.Started) (H:Type) (enc:TypeId×Value→H) (F:Stop.Interp):
  ReturnsInHanded {} Tryz.checked os 3 .any ((OpenSpec.ofChange Rows.dryAreasSpec).preRow enc prog Tryz.f3 Rows.dryAreasRow.domain false Rows.dryAreasRow.laid) (((OpenSpec.ofChange Rows.dryAreasSpec).at F).post enc prog Tryz.f3 false true false false):=by
 obtain ⟨places,hx⟩:=jz8 os enc
 refine returnsInHanded_of_row (C:=Tryz.checked) (s:=OpenSpec.ofChange Rows.dryAreasSpec) own started (by kernel_rfl) func3
  (witness_row_at (enc:=enc) (C:=Tryz.checked) false (World.laidAll prog os Rows.dryAreasRow.laid) #[.slice none 0 0, .agg #[.string ⟨#[]⟩, .string ⟨#[]⟩, .string ⟨#[]⟩]] (World.laidAll_os _ _ _) (by kernel_rfl) (by kernel_rfl) (by kernel_rfl)
    (OpenSpec.preRow_of_cond 8 hx (by kernel_rfl) (fun k hk=>by cases hk) (by kernel_rfl) (by rw [MakeChecks.laidMetH_plain _ _ _ (by kernel_rfl)];exact jzz os))) ?_
 intro W base args ds gs before hval hW _ _ _ hL hS _;exact jyU H enc W base args ds gs before hval hW hL hS
theorem jzL:(Rows.dryAreasRow.inPlace==Tryz.pinned.checked.prog.inPlace 3)=true:=by kernel_rfl
theorem jzN:(Rows.dryAreasRow.unfollowed==Tryz.pinned.checked.prog.unfollowed 3)=true:=by kernel_rfl
theorem jzJ:(Rows.dryAreasRow.recurses==Tryz.pinned.checked.prog.recurses 3)=true:=by kernel_rfl
theorem jzK:(Rows.dryAreasRow.named==Tryz.pinned.checked.prog.varsNamed 3)=true:=by kernel_rfl
theorem jyZ:joinedFacts Tryz.pinned.checked.prog 3 Tryz.f3 (OpenSpec.ofChange Rows.dryAreasSpec).bare Rows.dryAreasRow=true:=by
 unfold joinedFacts;rw [jzL,jzN,jzJ,jzK]
 kernel_rfl
theorem jzj:Rows.DryAreasSaid:=
 OpenClaim.holds_of_cond 3 Tryz.f3 rfl rfl rfl rfl rfl rfl rfl ⟨rfl,rfl,rfl,rfl,rfl⟩ rfl rfl rfl rfl rfl (by kernel_rfl) func3 jyZ
  (of_decide_eq_true (by kernel_rfl)) (by unfold Func.isWrapper;first|(rw [if_pos (by decide+kernel)];kernel_rfl)|(rw [if_neg (by decide+kernel)];exact ⟨rfl,rfl⟩))
  (fun os started H enc _ F=>by rw [OpenClaim.pre_eq_preRow];exact jyY os started H enc F)
theorem jza (f : FuncId) (fn : Func) (hf : Tryz.pinned.checked.prog.funcNamed "bushel/bushellaw06.DryAreas" = some f) (hfn : Tryz.pinned.checked.prog.funcs[f]? = some fn) :
  true=Tryz.pinned.checked.prog.looks []∧∀(j:Nat) t,fn.params[j]? =some t→Tryz.pinned.checked.prog.wantsStandIn t=false:=by
 obtain rfl : f = 3 := Option.some.inj ((show prog.funcNamed "bushel/bushellaw06.DryAreas" = some 3 by kernel_rfl).symm.trans hf) |>.symm
 obtain rfl:fn=Tryz.f3:=(Option.some.inj (func3.symm.trans hfn)).symm;refine ⟨by kernel_rfl,fun j t ht=> ?_⟩;rw [params3] at ht;have hm:t∈ [22,24]:=by simpa using Array.mem_of_getElem? ht
 have hall:([22,24].all fun u=> !prog.wantsStandIn u)=true:=by kernel_rfl
 exact (show prog.wantsStandIn t=false by simpa using List.all_eq_true.1 hall t hm)
theorem areas_card:Rows.DryAreasCardSaid:=
 Claim7.holds_tied_plain_at .later [] _ _ _ _ jzj (fun _ h=>by cases h) (by kernel_rfl) (fun _ h=>by cases h) dryAreas_row_tie rfl ⟨rfl,rfl⟩ (by kernel_rfl) rfl jza (by kernel_rfl)
#print axioms areas_card
end Go.Proofs.YtpkcjfpgemdfdaaGreatDoor
