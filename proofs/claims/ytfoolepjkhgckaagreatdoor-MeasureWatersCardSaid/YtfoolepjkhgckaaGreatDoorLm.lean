/- Parts. -/
import Derived.Test.YtfoolepjkhgckaaGreatDoorCards
import Derived.Test.YtfoolepjkhgckaaGreatDoorTie
import Derived.Test.YtfoolepjkhgckaaGreatDoorLjG
set_option linter.all false
set_option maxRecDepth 100000
set_option maxHeartbeats 8000000
namespace Go.Proofs.YtfoolepjkhgckaaGreatDoor
open Go Go.ChangeShapes Go.WideShapes Go.ChangeAt Go.RowKit

theorem jkQ (os:Os):laidMet Tryz.prog Rows.measureWatersRow.laid ((World.laidAll Tryz.prog os Rows.measureWatersRow.laid).forCall (fun _ _=>0) ⟨#[], #[.int .i64 0, .string ⟨#[]⟩, .string ⟨#[]⟩],[]⟩).memory:=
 laidMet_laidAll _ (by kernel_rfl) (by kernel_rfl)
theorem jhq (os:Os) {H:Type} (enc:TypeId×Value→H):∃places,DataW.whole enc Tryz.prog ((World.laidAll Tryz.prog os Rows.measureWatersRow.laid).forCall (fun _ _=>0) ⟨#[], #[.int .i64 0, .string ⟨#[]⟩, .string ⟨#[]⟩],[]⟩).memory Tryz.f3.params.toList Rows.measureWatersSpec.vars false #[Value.int .i64 0, .string ⟨#[]⟩, .string ⟨#[]⟩].toList 8=some ([.lit (.int .i64 0), .lit (.string []), .lit (.string [])],[],places):=
 ⟨[],by kernel_rfl⟩
theorem jfz (H:Type) (enc:TypeId×Value→H) (W:World) (base:Nat) (args:Array Value) (ds gs:List (DataW H)) (before:List MemPlace)
  (hval:∀(j:Nat) t v,Tryz.f3.params[j]? =some t→args[j]? =some v→Value.okWide Tryz.prog W .any base t v)
  (hW:DataW.Whole enc Tryz.prog Tryz.f3.params.toList Rows.measureWatersSpec.vars false W args.toList ds gs before) (hL:laidMetH Tryz.prog Rows.measureWatersRow.laid W) (hS:W.ShapedOpen Tryz.prog):
  Calls Tryz.prog 3 args W fun e W'=>∃v,e= .returned v∧Rows.measureWatersSpec.post enc Tryz.prog Tryz.f3 false true false false W args v W':=by
 have hE:Env W:=jhL (laidMetH.plain hL (by kernel_rfl)).tail.tail hS
 have hW':=hW
 obtain ⟨p,q,hA0,hV,rfl,hfz,hnd⟩:=hW
 have hA:DataW.TrodAll enc Tryz.prog W 0 (fun _=>true) true Tryz.f3.params.toList args.toList ds p:=hA0
 rw [Tryz.params3] at hA hval
 obtain ⟨v0,v1,v2,d0,d1,d2,p0,p1,p2,rfl,rfl,rfl,h0,h1,h2⟩:=trodAll_three hA
 obtain ⟨rfl,rfl⟩:=trodVars_none hV
 obtain ⟨x0,rfl,rfl,rfl,wx0⟩:=open_int Tryz.underlying3 (hval 0 3 v0 rfl rfl) h0
 obtain ⟨a1,rfl,rfl⟩:=jc8 Tryz.underlying22 (hval 1 22 v1 rfl rfl) h1
 obtain ⟨a2,rfl,rfl⟩:=jc8 Tryz.underlying22 (hval 2 22 v2 rfl rfl) h2
 simp only [List.append_nil,List.nil_append] at hW'
 have walk:Calls Tryz.prog 3 #[.int .i64 x0,bs a1,bs a2] W fun e w'=>e= .returned (.bool true)∧Below W.heap.size W w':=jjv hE
 refine walk.mono fun e W' ⟨he,hb⟩=> ?_
 subst he
 exact ⟨_,rfl,_,_,_,[],[],[],hW',trodAll_mk1 (shut_bool Tryz.underlying4 _),trodAll_mk3 (p:=[]) (p':=[]) (p'':=[]) (Below.trod jbG (by kernel_rfl) (of_decide_eq_true (by kernel_rfl)) h0 hb (fun y hy=>by cases hy)) (Below.trod jbG (by kernel_rfl) (of_decide_eq_true (by kernel_rfl)) h1 hb (fun y hy=>by cases hy)) (Below.trod jbG (by kernel_rfl) (of_decide_eq_true (by kernel_rfl)) h2 hb (fun y hy=>by cases hy)),rfl,hb.frame _,fun h=>by cases h⟩
theorem jgH (os:Os) (started:os.Started) (H:Type) (enc:TypeId×Value→H) (F:Stop.Interp):
  ReturnsInHanded {} Tryz.checked os 3 .any ((OpenSpec.ofChange Rows.measureWatersSpec).preRow enc Tryz.prog Tryz.f3 Rows.measureWatersRow.domain false Rows.measureWatersRow.laid) (((OpenSpec.ofChange Rows.measureWatersSpec).at F).post enc Tryz.prog Tryz.f3 false true false false):=by
 obtain ⟨places,hx⟩:=jhq os enc
 refine returnsInHanded_of_row (C:=Tryz.checked) (s:=OpenSpec.ofChange Rows.measureWatersSpec) own started (by kernel_rfl) Tryz.func3
  (witness_row_at (enc:=enc) (C:=Tryz.checked) false (World.laidAll Tryz.prog os Rows.measureWatersRow.laid) #[.int .i64 0, .string ⟨#[]⟩, .string ⟨#[]⟩] (World.laidAll_os _ _ _) (by kernel_rfl) (by kernel_rfl) (by kernel_rfl)
    (OpenSpec.preRow_of_cond 8 hx (by kernel_rfl) (fun k hk=>by cases hk) (by kernel_rfl) (by rw [MakeChecks.laidMetH_plain _ _ _ (by kernel_rfl)];exact jkQ os))) ?_
 intro W base args ds gs before hval hW _ _ _ hL hS _
 exact jfz H enc W base args ds gs before hval hW hL hS
theorem jnt:(Rows.measureWatersRow.inPlace==Tryz.pinned.checked.prog.inPlace 3)=true:=by kernel_rfl
theorem jlG:(Rows.measureWatersRow.unfollowed==Tryz.pinned.checked.prog.unfollowed 3)=true:=by kernel_rfl
theorem jnj:(Rows.measureWatersRow.recurses==Tryz.pinned.checked.prog.recurses 3)=true:=by kernel_rfl
theorem jnp:(Rows.measureWatersRow.named==Tryz.pinned.checked.prog.varsNamed 3)=true:=by kernel_rfl
theorem jgD:joinedFacts Tryz.pinned.checked.prog 3 Tryz.f3 (OpenSpec.ofChange Rows.measureWatersSpec).bare Rows.measureWatersRow=true:=by
 unfold joinedFacts
 rw [jnt,jlG,jnj,jnp]
 kernel_rfl
theorem jjh:Rows.MeasureWatersSaid:=
 OpenClaim.holds_of_cond 3 Tryz.f3 rfl rfl rfl rfl rfl rfl rfl ⟨rfl,rfl,rfl,rfl,rfl⟩ rfl rfl rfl rfl rfl (by kernel_rfl) Tryz.func3 jgD
  (of_decide_eq_true (by kernel_rfl)) (by unfold Func.isWrapper;first|(rw [if_pos (by decide+kernel)];kernel_rfl)|(rw [if_neg (by decide+kernel)];exact ⟨rfl,rfl⟩))
  (fun os started H enc _ F=>by rw [OpenClaim.pre_eq_preRow];exact jgH os started H enc F)
theorem ji7 (f : FuncId) (fn : Func) (hf : Tryz.pinned.checked.prog.funcNamed "bushel/bushellaw01.MeasureWaters" = some f) (hfn : Tryz.pinned.checked.prog.funcs[f]? = some fn) :
  true=Tryz.pinned.checked.prog.looks []∧∀(j:Nat) t,fn.params[j]? =some t→Tryz.pinned.checked.prog.wantsStandIn t=false:=by
 obtain rfl : f = 3 := Option.some.inj ((show Tryz.prog.funcNamed "bushel/bushellaw01.MeasureWaters" = some 3 by kernel_rfl).symm.trans hf) |>.symm
 obtain rfl:fn=Tryz.f3:=(Option.some.inj (Tryz.func3.symm.trans hfn)).symm
 refine ⟨by kernel_rfl,fun j t ht=> ?_⟩
 rw [Tryz.params3] at ht
 have hm:t∈ [3,22,22]:=by simpa using Array.mem_of_getElem? ht
 have hall:([3,22,22].all fun u=> !Tryz.prog.wantsStandIn u)=true:=by kernel_rfl
 exact (show Tryz.prog.wantsStandIn t=false by simpa using List.all_eq_true.1 hall t hm)
theorem waters_card:Rows.MeasureWatersCardSaid:=
 Claim7.holds_tied_plain_at .later [] _ _ _ _ jjh (fun _ h=>by cases h) (by kernel_rfl) (fun _ h=>by cases h) measureWaters_row_tie rfl ⟨rfl,rfl⟩ (by kernel_rfl) rfl ji7 (by kernel_rfl)
#print axioms waters_card
end Go.Proofs.YtfoolepjkhgckaaGreatDoor
