/- Parts. -/
import Derived.Test.YteokfcjdfjhhhaaGreatDoorCards
import Derived.Test.YteokfcjdfjhhhaaGreatDoorTie
import Derived.Test.YteokfcjdfjhhhaaGreatDoorGz
import Derived.Test.YteokfcjdfjhhhaaGreatDoorRy
set_option linter.all false
set_option maxRecDepth 100000
set_option maxHeartbeats 8000000
namespace Go.Proofs.YteokfcjdfjhhhaaGreatDoor
open Go Go.ChangeShapes Go.WideShapes Go.ChangeAt Go.RowKit

theorem jl8 (os:Os):laidMet Tryz.prog Rows.measureMixesRow.laid ((World.laidAll Tryz.prog os Rows.measureMixesRow.laid).forCall (fun _ _=>0) ⟨#[], #[.slice none 0 0],[]⟩).memory:=
 laidMet_laidAll _ (by kernel_rfl) (by kernel_rfl)
theorem jij (os:Os) {H:Type} (enc:TypeId×Value→H):∃places,DataW.whole enc Tryz.prog ((World.laidAll Tryz.prog os Rows.measureMixesRow.laid).forCall (fun _ _=>0) ⟨#[], #[.slice none 0 0],[]⟩).memory Tryz.f3.params.toList Rows.measureMixesSpec.vars false #[Value.slice none 0 0].toList 8=some ([.nil],[],places):=
 ⟨[],by kernel_rfl⟩
theorem jfh (H:Type) (enc:TypeId×Value→H) (W:World) (base:Nat) (args:Array Value) (ds gs:List (DataW H)) (before:List MemPlace)
  (hval:∀(j:Nat) t v,Tryz.f3.params[j]? =some t→args[j]? =some v→Value.okWide Tryz.prog W .any base t v)
  (hW:DataW.Whole enc Tryz.prog Tryz.f3.params.toList Rows.measureMixesSpec.vars false W args.toList ds gs before) (hL:laidMetH Tryz.prog Rows.measureMixesRow.laid W) (hS:W.ShapedOpen Tryz.prog):
  Calls Tryz.prog 3 args W fun e W'=>∃v,e= .returned v∧Rows.measureMixesSpec.post enc Tryz.prog Tryz.f3 false true false false W args v W':=by
 have hE:Env W:=jrJ (laidMetH.plain hL (by kernel_rfl)).tail.tail hS;have hW':=hW;obtain ⟨p,q,hA0,hV,rfl,hfz,hnd⟩:=hW;have hA:DataW.TrodAll enc Tryz.prog W 0 (fun _=>true) true Tryz.f3.params.toList args.toList ds p:=hA0;rw [Tryz.params3] at hA hval;obtain ⟨v0,d0,rfl,rfl,h0⟩:=trodAll_one hA;obtain ⟨rfl,rfl⟩:=trodVars_none hV;obtain ⟨A0,n0,c0,rfl⟩:=okWide_slice Tryz.underlying22 (hval 0 22 v0 rfl rfl);have h0k:=h0;obtain ⟨fuel0,hf0⟩:=h0;simp only [List.append_nil,List.nil_append] at hW';have hlt0:∀y∈p,y.block < W.heap.size:=fun y hy=>by simpa using hW'.lt y hy
 obtain ⟨ls0,hv0,hr0⟩:=jiD hf0;have walk:Calls Tryz.prog 3 #[.slice A0 n0 c0] W fun e w'=>e= .returned (.bool true)∧Below W.heap.size W w':=jky hE hv0 hr0
 refine walk.mono fun e W' ⟨he,hb⟩=> ?_
 subst he;exact ⟨_,rfl,_,_,_,[],p,[],hW',trodAll_mk1 (shut_bool Tryz.underlying4 _),trodAll_mk1 (p:=p) (Below.trod jqo (by kernel_rfl) (of_decide_eq_true (by kernel_rfl)) h0k hb hlt0),rfl,hb.frame _,fun h=>by cases h⟩
theorem jh9 (os:Os) (started:os.Started) (H:Type) (enc:TypeId×Value→H) (F:Stop.Interp):
  ReturnsInHanded {} Tryz.checked os 3 .any ((OpenSpec.ofChange Rows.measureMixesSpec).preRow enc Tryz.prog Tryz.f3 Rows.measureMixesRow.domain false Rows.measureMixesRow.laid) (((OpenSpec.ofChange Rows.measureMixesSpec).at F).post enc Tryz.prog Tryz.f3 false true false false):=by
 obtain ⟨places,hx⟩:=jij os enc
 refine returnsInHanded_of_row (C:=Tryz.checked) (s:=OpenSpec.ofChange Rows.measureMixesSpec) own started (by kernel_rfl) Tryz.func3
  (witness_row_at (enc:=enc) (C:=Tryz.checked) false (World.laidAll Tryz.prog os Rows.measureMixesRow.laid) #[.slice none 0 0] (World.laidAll_os _ _ _) (by kernel_rfl) (by kernel_rfl) (by kernel_rfl)
    (OpenSpec.preRow_of_cond 8 hx (by kernel_rfl) (fun k hk=>by cases hk) (by kernel_rfl) (by rw [MakeChecks.laidMetH_plain _ _ _ (by kernel_rfl)];exact jl8 os))) ?_
 intro W base args ds gs before hval hW _ _ _ hL hS _;exact jfh H enc W base args ds gs before hval hW hL hS
theorem jnS:(Rows.measureMixesRow.inPlace==Tryz.pinned.checked.prog.inPlace 3)=true:=by kernel_rfl
theorem joS:(Rows.measureMixesRow.unfollowed==Tryz.pinned.checked.prog.unfollowed 3)=true:=by kernel_rfl
theorem jnX:(Rows.measureMixesRow.recurses==Tryz.pinned.checked.prog.recurses 3)=true:=by kernel_rfl
theorem joH:(Rows.measureMixesRow.named==Tryz.pinned.checked.prog.varsNamed 3)=true:=by kernel_rfl
theorem jhg:joinedFacts Tryz.pinned.checked.prog 3 Tryz.f3 (OpenSpec.ofChange Rows.measureMixesSpec).bare Rows.measureMixesRow=true:=by
 unfold joinedFacts;rw [jnS,joS,jnX,joH]
 kernel_rfl
theorem jkw:Rows.MeasureMixesSaid:=
 OpenClaim.holds_of_cond 3 Tryz.f3 rfl rfl rfl rfl rfl rfl rfl ⟨rfl,rfl,rfl,rfl,rfl⟩ rfl rfl rfl rfl rfl (by kernel_rfl) Tryz.func3 jhg
  (of_decide_eq_true (by kernel_rfl)) (by unfold Func.isWrapper;first|(rw [if_pos (by decide+kernel)];kernel_rfl)|(rw [if_neg (by decide+kernel)];exact ⟨rfl,rfl⟩))
  (fun os started H enc _ F=>by rw [OpenClaim.pre_eq_preRow];exact jh9 os started H enc F)
theorem jiv (f : FuncId) (fn : Func) (hf : Tryz.pinned.checked.prog.funcNamed "bushel/bushellaw01.MeasureMixes" = some f) (hfn : Tryz.pinned.checked.prog.funcs[f]? = some fn) :
  true=Tryz.pinned.checked.prog.looks []∧∀(j:Nat) t,fn.params[j]? =some t→Tryz.pinned.checked.prog.wantsStandIn t=false:=by
 obtain rfl : f = 3 := Option.some.inj ((show Tryz.prog.funcNamed "bushel/bushellaw01.MeasureMixes" = some 3 by kernel_rfl).symm.trans hf) |>.symm
 obtain rfl:fn=Tryz.f3:=(Option.some.inj (Tryz.func3.symm.trans hfn)).symm;refine ⟨by kernel_rfl,fun j t ht=> ?_⟩;rw [Tryz.params3] at ht;have hm:t∈ [22]:=by simpa using Array.mem_of_getElem? ht
 have hall:([22].all fun u=> !Tryz.prog.wantsStandIn u)=true:=by kernel_rfl
 exact (show Tryz.prog.wantsStandIn t=false by simpa using List.all_eq_true.1 hall t hm)
theorem mixes_card:Rows.MeasureMixesCardSaid:=
 Claim7.holds_tied_plain_at .later [] _ _ _ _ jkw (fun _ h=>by cases h) (by kernel_rfl) (fun _ h=>by cases h) measureMixes_row_tie rfl ⟨rfl,rfl⟩ (by kernel_rfl) rfl jiv (by kernel_rfl)
#print axioms mixes_card
end Go.Proofs.YteokfcjdfjhhhaaGreatDoor
