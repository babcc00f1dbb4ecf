/- Parts. -/
import Derived.Test.YtfoolepjkhgckaaGreatDoorCards
import Derived.Test.YtfoolepjkhgckaaGreatDoorTie
import Derived.Test.YtfoolepjkhgckaaGreatDoorNbG
set_option linter.all false
set_option maxRecDepth 100000
set_option maxHeartbeats 8000000
namespace Go.Proofs.YtfoolepjkhgckaaGreatDoor
open Go Go.ChangeShapes Go.WideShapes Go.ChangeAt Go.RowKit

theorem jjK (os:Os):laidMet Tryz.prog Rows.measureNumbersRow.laid ((World.laidAll Tryz.prog os Rows.measureNumbersRow.laid).forCall (fun _ _=>0) ⟨#[], #[.string ⟨#[]⟩, .string ⟨#[]⟩],[]⟩).memory:=
 laidMet_laidAll _ (by kernel_rfl) (by kernel_rfl)
theorem jgI (os:Os) {H:Type} (enc:TypeId×Value→H):∃places,DataW.whole enc Tryz.prog ((World.laidAll Tryz.prog os Rows.measureNumbersRow.laid).forCall (fun _ _=>0) ⟨#[], #[.string ⟨#[]⟩, .string ⟨#[]⟩],[]⟩).memory Tryz.f7.params.toList Rows.measureNumbersSpec.vars false #[Value.string ⟨#[]⟩, .string ⟨#[]⟩].toList 8=some ([.lit (.string []), .lit (.string [])],[],places):=
 ⟨[],by kernel_rfl⟩
theorem jet (H:Type) (enc:TypeId×Value→H) (W:World) (base:Nat) (args:Array Value) (ds gs:List (DataW H)) (before:List MemPlace)
  (hval:∀(j:Nat) t v,Tryz.f7.params[j]? =some t→args[j]? =some v→Value.okWide Tryz.prog W .any base t v)
  (hW:DataW.Whole enc Tryz.prog Tryz.f7.params.toList Rows.measureNumbersSpec.vars false W args.toList ds gs before) (hL:laidMetH Tryz.prog Rows.measureNumbersRow.laid W) (hS:W.ShapedOpen Tryz.prog):
  Calls Tryz.prog 7 args W fun e W'=>∃v,e= .returned v∧Rows.measureNumbersSpec.post enc Tryz.prog Tryz.f7 false true false false W args v W':=by
 have hE:Env W:=jhL (laidMetH.plain hL (by kernel_rfl)).tail.tail hS
 have hW':=hW
 obtain ⟨p,q,hA0,hV,rfl,hfz,hnd⟩:=hW
 have hA:DataW.TrodAll enc Tryz.prog W 0 (fun _=>true) true Tryz.f7.params.toList args.toList ds p:=hA0
 rw [Tryz.params7] at hA hval
 obtain ⟨v0,v1,d0,d1,p0,p1,rfl,rfl,rfl,h0,h1⟩:=trodAll_two hA
 obtain ⟨rfl,rfl⟩:=trodVars_none hV
 obtain ⟨a0,rfl,rfl⟩:=jc8 Tryz.underlying22 (hval 0 22 v0 rfl rfl) h0
 obtain ⟨a1,rfl,rfl⟩:=jc8 Tryz.underlying22 (hval 1 22 v1 rfl rfl) h1
 simp only [List.append_nil,List.nil_append] at hW'
 have walk:Calls Tryz.prog 7 #[bs a0,bs a1] W fun e w'=>e= .returned (.bool true)∧Below W.heap.size W w':=jre hE 
 refine walk.mono fun e W' ⟨he,hb⟩=> ?_
 subst he
 exact ⟨_,rfl,_,_,_,[],[],[],hW',trodAll_mk1 (shut_bool Tryz.underlying4 _),trodAll_mk2 (p:=[]) (p':=[]) (Below.trod jbG (by kernel_rfl) (of_decide_eq_true (by kernel_rfl)) h0 hb (fun y hy=>by cases hy)) (Below.trod jbG (by kernel_rfl) (of_decide_eq_true (by kernel_rfl)) h1 hb (fun y hy=>by cases hy)),rfl,hb.frame _,fun h=>by cases h⟩
theorem jfO (os:Os) (started:os.Started) (H:Type) (enc:TypeId×Value→H) (F:Stop.Interp):
  ReturnsInHanded {} Tryz.checked os 7 .any ((OpenSpec.ofChange Rows.measureNumbersSpec).preRow enc Tryz.prog Tryz.f7 Rows.measureNumbersRow.domain false Rows.measureNumbersRow.laid) (((OpenSpec.ofChange Rows.measureNumbersSpec).at F).post enc Tryz.prog Tryz.f7 false true false false):=by
 obtain ⟨places,hx⟩:=jgI os enc
 refine returnsInHanded_of_row (C:=Tryz.checked) (s:=OpenSpec.ofChange Rows.measureNumbersSpec) own started (by kernel_rfl) Tryz.func7
  (witness_row_at (enc:=enc) (C:=Tryz.checked) false (World.laidAll Tryz.prog os Rows.measureNumbersRow.laid) #[.string ⟨#[]⟩, .string ⟨#[]⟩] (World.laidAll_os _ _ _) (by kernel_rfl) (by kernel_rfl) (by kernel_rfl)
    (OpenSpec.preRow_of_cond 8 hx (by kernel_rfl) (fun k hk=>by cases hk) (by kernel_rfl) (by rw [MakeChecks.laidMetH_plain _ _ _ (by kernel_rfl)];exact jjK os))) ?_
 intro W base args ds gs before hval hW _ _ _ hL hS _
 exact jet H enc W base args ds gs before hval hW hL hS
theorem jln:(Rows.measureNumbersRow.inPlace==Tryz.pinned.checked.prog.inPlace 7)=true:=by kernel_rfl
theorem jlx:(Rows.measureNumbersRow.unfollowed==Tryz.pinned.checked.prog.unfollowed 7)=true:=by kernel_rfl
theorem jlt:(Rows.measureNumbersRow.recurses==Tryz.pinned.checked.prog.recurses 7)=true:=by kernel_rfl
theorem jly:(Rows.measureNumbersRow.named==Tryz.pinned.checked.prog.varsNamed 7)=true:=by kernel_rfl
theorem jfL:joinedFacts Tryz.pinned.checked.prog 7 Tryz.f7 (OpenSpec.ofChange Rows.measureNumbersSpec).bare Rows.measureNumbersRow=true:=by
 unfold joinedFacts
 rw [jln,jlx,jlt,jly]
 kernel_rfl
theorem jij:Rows.MeasureNumbersSaid:=
 OpenClaim.holds_of_cond 7 Tryz.f7 rfl rfl rfl rfl rfl rfl rfl ⟨rfl,rfl,rfl,rfl,rfl⟩ rfl rfl rfl rfl rfl (by kernel_rfl) Tryz.func7 jfL
  (of_decide_eq_true (by kernel_rfl)) (by unfold Func.isWrapper;first|(rw [if_pos (by decide+kernel)];kernel_rfl)|(rw [if_neg (by decide+kernel)];exact ⟨rfl,rfl⟩))
  (fun os started H enc _ F=>by rw [OpenClaim.pre_eq_preRow];exact jfO os started H enc F)
theorem jgB (f : FuncId) (fn : Func) (hf : Tryz.pinned.checked.prog.funcNamed "bushel/bushellaw01.MeasureNumbers" = some f) (hfn : Tryz.pinned.checked.prog.funcs[f]? = some fn) :
  true=Tryz.pinned.checked.prog.looks []∧∀(j:Nat) t,fn.params[j]? =some t→Tryz.pinned.checked.prog.wantsStandIn t=false:=by
 obtain rfl : f = 7 := Option.some.inj ((show Tryz.prog.funcNamed "bushel/bushellaw01.MeasureNumbers" = some 7 by kernel_rfl).symm.trans hf) |>.symm
 obtain rfl:fn=Tryz.f7:=(Option.some.inj (Tryz.func7.symm.trans hfn)).symm
 refine ⟨by kernel_rfl,fun j t ht=> ?_⟩
 rw [Tryz.params7] at ht
 have hm:t∈ [22,22]:=by simpa using Array.mem_of_getElem? ht
 have hall:([22,22].all fun u=> !Tryz.prog.wantsStandIn u)=true:=by kernel_rfl
 exact (show Tryz.prog.wantsStandIn t=false by simpa using List.all_eq_true.1 hall t hm)
theorem numbers_card:Rows.MeasureNumbersCardSaid:=
 Claim7.holds_tied_plain_at .later [] _ _ _ _ jij (fun _ h=>by cases h) (by kernel_rfl) (fun _ h=>by cases h) measureNumbers_row_tie rfl ⟨rfl,rfl⟩ (by kernel_rfl) rfl jgB (by kernel_rfl)
#print axioms numbers_card
end Go.Proofs.YtfoolepjkhgckaaGreatDoor
