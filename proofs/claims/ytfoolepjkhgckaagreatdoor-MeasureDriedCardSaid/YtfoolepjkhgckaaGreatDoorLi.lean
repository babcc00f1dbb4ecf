/- Parts. -/
import Derived.Test.YtfoolepjkhgckaaGreatDoorCards
import Derived.Test.YtfoolepjkhgckaaGreatDoorTie
import Derived.Test.YtfoolepjkhgckaaGreatDoorLh
set_option linter.all false
set_option maxRecDepth 100000
set_option maxHeartbeats 8000000
namespace Go.Proofs.YtfoolepjkhgckaaGreatDoor
open Go Go.ChangeShapes Go.WideShapes Go.ChangeAt Go.RowKit

theorem jno (os:Os):laidMet Tryz.prog Rows.measureDriedRow.laid ((World.laidAll Tryz.prog os Rows.measureDriedRow.laid).forCall (fun _ _=>0) ⟨#[], #[.int .u32 0, .string ⟨#[]⟩, .string ⟨#[]⟩],[]⟩).memory:=
 laidMet_laidAll _ (by kernel_rfl) (by kernel_rfl)
theorem jjw (os:Os) {H:Type} (enc:TypeId×Value→H):∃places,DataW.whole enc Tryz.prog ((World.laidAll Tryz.prog os Rows.measureDriedRow.laid).forCall (fun _ _=>0) ⟨#[], #[.int .u32 0, .string ⟨#[]⟩, .string ⟨#[]⟩],[]⟩).memory Tryz.f4.params.toList Rows.measureDriedSpec.vars false #[Value.int .u32 0, .string ⟨#[]⟩, .string ⟨#[]⟩].toList 8=some ([.lit (.int .u32 0), .lit (.string []), .lit (.string [])],[],places):=
 ⟨[],by kernel_rfl⟩
theorem jfJ (H:Type) (enc:TypeId×Value→H) (W:World) (base:Nat) (args:Array Value) (ds gs:List (DataW H)) (before:List MemPlace)
  (hval:∀(j:Nat) t v,Tryz.f4.params[j]? =some t→args[j]? =some v→Value.okWide Tryz.prog W .any base t v)
  (hW:DataW.Whole enc Tryz.prog Tryz.f4.params.toList Rows.measureDriedSpec.vars false W args.toList ds gs before) (hL:laidMetH Tryz.prog Rows.measureDriedRow.laid W) (hS:W.ShapedOpen Tryz.prog):
  Calls Tryz.prog 4 args W fun e W'=>∃v,e= .returned v∧Rows.measureDriedSpec.post enc Tryz.prog Tryz.f4 false true false false W args v W':=by
 have hE:Env W:=jhL (laidMetH.plain hL (by kernel_rfl)).tail.tail hS
 have hW':=hW
 obtain ⟨p,q,hA0,hV,rfl,hfz,hnd⟩:=hW
 have hA:DataW.TrodAll enc Tryz.prog W 0 (fun _=>true) true Tryz.f4.params.toList args.toList ds p:=hA0
 rw [Tryz.params4] at hA hval
 obtain ⟨v0,v1,v2,d0,d1,d2,p0,p1,p2,rfl,rfl,rfl,h0,h1,h2⟩:=trodAll_three hA
 obtain ⟨rfl,rfl⟩:=trodVars_none hV
 obtain ⟨x0,rfl,rfl,rfl,wx0⟩:=open_int Tryz.underlying36 (hval 0 36 v0 rfl rfl) h0
 obtain ⟨a1,rfl,rfl⟩:=jc8 Tryz.underlying22 (hval 1 22 v1 rfl rfl) h1
 obtain ⟨a2,rfl,rfl⟩:=jc8 Tryz.underlying22 (hval 2 22 v2 rfl rfl) h2
 simp only [List.append_nil,List.nil_append] at hW'
 have hx:0≤x0∧x0≤4294967295:=by simpa [Lit.wf,IntKind.min,IntKind.max,IntKind.signed,IntKind.bits] using wx0
 have walk:Calls Tryz.prog 4 #[.int .u32 x0,bs a1,bs a2] W fun e w'=>e= .returned (.bool true)∧Below W.heap.size W w':=jlf hE hx.1 (by omega)
 refine walk.mono fun e W' ⟨he,hb⟩=> ?_
 subst he
 exact ⟨_,rfl,_,_,_,[],[],[],hW',trodAll_mk1 (shut_bool Tryz.underlying4 _),trodAll_mk3 (p:=[]) (p':=[]) (p'':=[]) (Below.trod jbG (by kernel_rfl) (of_decide_eq_true (by kernel_rfl)) h0 hb (fun y hy=>by cases hy)) (Below.trod jbG (by kernel_rfl) (of_decide_eq_true (by kernel_rfl)) h1 hb (fun y hy=>by cases hy)) (Below.trod jbG (by kernel_rfl) (of_decide_eq_true (by kernel_rfl)) h2 hb (fun y hy=>by cases hy)),rfl,hb.frame _,fun h=>by cases h⟩
theorem jhM (os:Os) (started:os.Started) (H:Type) (enc:TypeId×Value→H) (F:Stop.Interp):
  ReturnsInHanded {} Tryz.checked os 4 .any ((OpenSpec.ofChange Rows.measureDriedSpec).preRow enc Tryz.prog Tryz.f4 Rows.measureDriedRow.domain false Rows.measureDriedRow.laid) (((OpenSpec.ofChange Rows.measureDriedSpec).at F).post enc Tryz.prog Tryz.f4 false true false false):=by
 obtain ⟨places,hx⟩:=jjw os enc
 refine returnsInHanded_of_row (C:=Tryz.checked) (s:=OpenSpec.ofChange Rows.measureDriedSpec) own started (by kernel_rfl) Tryz.func4
  (witness_row_at (enc:=enc) (C:=Tryz.checked) false (World.laidAll Tryz.prog os Rows.measureDriedRow.laid) #[.int .u32 0, .string ⟨#[]⟩, .string ⟨#[]⟩] (World.laidAll_os _ _ _) (by kernel_rfl) (by kernel_rfl) (by kernel_rfl)
    (OpenSpec.preRow_of_cond 8 hx (by kernel_rfl) (fun k hk=>by cases hk) (by kernel_rfl) (by rw [MakeChecks.laidMetH_plain _ _ _ (by kernel_rfl)];exact jno os))) ?_
 intro W base args ds gs before hval hW _ _ _ hL hS _
 exact jfJ H enc W base args ds gs before hval hW hL hS
theorem jq6:(Rows.measureDriedRow.inPlace==Tryz.pinned.checked.prog.inPlace 4)=true:=by kernel_rfl
theorem joA:(Rows.measureDriedRow.unfollowed==Tryz.pinned.checked.prog.unfollowed 4)=true:=by kernel_rfl
theorem jqu:(Rows.measureDriedRow.recurses==Tryz.pinned.checked.prog.recurses 4)=true:=by kernel_rfl
theorem jpq:(Rows.measureDriedRow.named==Tryz.pinned.checked.prog.varsNamed 4)=true:=by kernel_rfl
theorem jhA:joinedFacts Tryz.pinned.checked.prog 4 Tryz.f4 (OpenSpec.ofChange Rows.measureDriedSpec).bare Rows.measureDriedRow=true:=by
 unfold joinedFacts
 rw [jq6,joA,jqu,jpq]
 kernel_rfl
theorem jl3:Rows.MeasureDriedSaid:=
 OpenClaim.holds_of_cond 4 Tryz.f4 rfl rfl rfl rfl rfl rfl rfl ⟨rfl,rfl,rfl,rfl,rfl⟩ rfl rfl rfl rfl rfl (by kernel_rfl) Tryz.func4 jhA
  (of_decide_eq_true (by kernel_rfl)) (by unfold Func.isWrapper;first|(rw [if_pos (by decide+kernel)];kernel_rfl)|(rw [if_neg (by decide+kernel)];exact ⟨rfl,rfl⟩))
  (fun os started H enc _ F=>by rw [OpenClaim.pre_eq_preRow];exact jhM os started H enc F)
theorem jjL (f : FuncId) (fn : Func) (hf : Tryz.pinned.checked.prog.funcNamed "bushel/bushellaw01.MeasureDried" = some f) (hfn : Tryz.pinned.checked.prog.funcs[f]? = some fn) :
  true=Tryz.pinned.checked.prog.looks []∧∀(j:Nat) t,fn.params[j]? =some t→Tryz.pinned.checked.prog.wantsStandIn t=false:=by
 obtain rfl : f = 4 := Option.some.inj ((show Tryz.prog.funcNamed "bushel/bushellaw01.MeasureDried" = some 4 by kernel_rfl).symm.trans hf) |>.symm
 obtain rfl:fn=Tryz.f4:=(Option.some.inj (Tryz.func4.symm.trans hfn)).symm
 refine ⟨by kernel_rfl,fun j t ht=> ?_⟩
 rw [Tryz.params4] at ht
 have hm:t∈ [36,22,22]:=by simpa using Array.mem_of_getElem? ht
 have hall:([36,22,22].all fun u=> !Tryz.prog.wantsStandIn u)=true:=by kernel_rfl
 exact (show Tryz.prog.wantsStandIn t=false by simpa using List.all_eq_true.1 hall t hm)
theorem dried_card:Rows.MeasureDriedCardSaid:=
 Claim7.holds_tied_plain_at .later [] _ _ _ _ jl3 (fun _ h=>by cases h) (by kernel_rfl) (fun _ h=>by cases h) measureDried_row_tie rfl ⟨rfl,rfl⟩ (by kernel_rfl) rfl jjL (by kernel_rfl)
#print axioms dried_card
end Go.Proofs.YtfoolepjkhgckaaGreatDoor
