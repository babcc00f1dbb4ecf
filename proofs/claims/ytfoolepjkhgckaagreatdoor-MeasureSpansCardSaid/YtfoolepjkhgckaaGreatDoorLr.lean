/- Parts. -/
import Derived.Test.YtfoolepjkhgckaaGreatDoorCards
import Derived.Test.YtfoolepjkhgckaaGreatDoorTie
import Derived.Test.YtfoolepjkhgckaaGreatDoorLpG
set_option linter.all false
set_option maxRecDepth 100000
set_option maxHeartbeats 8000000
namespace Go.Proofs.YtfoolepjkhgckaaGreatDoor
open Go Go.ChangeShapes Go.WideShapes Go.ChangeAt Go.RowKit

theorem jmN (os:Os):laidMet Tryz.prog Rows.measureSpansRow.laid ((World.laidAll Tryz.prog os Rows.measureSpansRow.laid).forCall (fun _ _=>0) ⟨#[], #[.agg #[.string ⟨#[]⟩, .string ⟨#[]⟩], .agg #[.string ⟨#[]⟩, .string ⟨#[]⟩]],[]⟩).memory:=
 laidMet_laidAll _ (by kernel_rfl) (by kernel_rfl)
theorem jiX (os:Os) {H:Type} (enc:TypeId×Value→H):∃places,DataW.whole enc Tryz.prog ((World.laidAll Tryz.prog os Rows.measureSpansRow.laid).forCall (fun _ _=>0) ⟨#[], #[.agg #[.string ⟨#[]⟩, .string ⟨#[]⟩], .agg #[.string ⟨#[]⟩, .string ⟨#[]⟩]],[]⟩).memory Tryz.f6.params.toList Rows.measureSpansSpec.vars false #[Value.agg #[.string ⟨#[]⟩, .string ⟨#[]⟩], .agg #[.string ⟨#[]⟩, .string ⟨#[]⟩]].toList 8=some ([.agg [.lit (.string []), .lit (.string [])], .agg [.lit (.string []), .lit (.string [])]],[],places):=
 ⟨[],by kernel_rfl⟩
theorem jfP (H:Type) (enc:TypeId×Value→H) (W:World) (base:Nat) (args:Array Value) (ds gs:List (DataW H)) (before:List MemPlace)
  (hval:∀(j:Nat) t v,Tryz.f6.params[j]? =some t→args[j]? =some v→Value.okWide Tryz.prog W .any base t v)
  (hW:DataW.Whole enc Tryz.prog Tryz.f6.params.toList Rows.measureSpansSpec.vars false W args.toList ds gs before) (hL:laidMetH Tryz.prog Rows.measureSpansRow.laid W) (hS:W.ShapedOpen Tryz.prog):
  Calls Tryz.prog 6 args W fun e W'=>∃v,e= .returned v∧Rows.measureSpansSpec.post enc Tryz.prog Tryz.f6 false true false false W args v W':=by
 have hE:Env W:=jhL (laidMetH.plain hL (by kernel_rfl)).tail.tail hS
 have hW':=hW
 obtain ⟨p,q,hA0,hV,rfl,hfz,hnd⟩:=hW
 have hA:DataW.TrodAll enc Tryz.prog W 0 (fun _=>true) true Tryz.f6.params.toList args.toList ds p:=hA0
 rw [Tryz.params6] at hA hval
 obtain ⟨v0,v1,d0,d1,p0,p1,rfl,rfl,rfl,h0,h1⟩:=trodAll_two hA
 obtain ⟨rfl,rfl⟩:=trodVars_none hV
 obtain ⟨a0,b0,rfl,rfl⟩:=jda Tryz.underlying43 (by kernel_rfl) (by kernel_rfl) (by kernel_rfl) (by kernel_rfl) (by kernel_rfl) rfl rfl (hval 0 43 v0 rfl rfl) h0
 obtain ⟨a1,b1,rfl,rfl⟩:=jda Tryz.underlying43 (by kernel_rfl) (by kernel_rfl) (by kernel_rfl) (by kernel_rfl) (by kernel_rfl) rfl rfl (hval 1 43 v1 rfl rfl) h1
 simp only [List.append_nil,List.nil_append] at hW'
 have walk:Calls Tryz.prog 6 #[.agg #[bs a0,bs b0], .agg #[bs a1,bs b1]] W fun e w'=>e= .returned (.bool true)∧Below W.heap.size W w':=jpJ hE 
 refine walk.mono fun e W' ⟨he,hb⟩=> ?_
 subst he
 exact ⟨_,rfl,_,_,_,[],[],[],hW',trodAll_mk1 (shut_bool Tryz.underlying4 _),trodAll_mk2 (p:=[]) (p':=[]) (Below.trod jbG (by kernel_rfl) (of_decide_eq_true (by kernel_rfl)) h0 hb (fun y hy=>by cases hy)) (Below.trod jbG (by kernel_rfl) (of_decide_eq_true (by kernel_rfl)) h1 hb (fun y hy=>by cases hy)),rfl,hb.frame _,fun h=>by cases h⟩
theorem jik (os:Os) (started:os.Started) (H:Type) (enc:TypeId×Value→H) (F:Stop.Interp):
  ReturnsInHanded {} Tryz.checked os 6 .any ((OpenSpec.ofChange Rows.measureSpansSpec).preRow enc Tryz.prog Tryz.f6 Rows.measureSpansRow.domain false Rows.measureSpansRow.laid) (((OpenSpec.ofChange Rows.measureSpansSpec).at F).post enc Tryz.prog Tryz.f6 false true false false):=by
 obtain ⟨places,hx⟩:=jiX os enc
 refine returnsInHanded_of_row (C:=Tryz.checked) (s:=OpenSpec.ofChange Rows.measureSpansSpec) own started (by kernel_rfl) Tryz.func6
  (witness_row_at (enc:=enc) (C:=Tryz.checked) false (World.laidAll Tryz.prog os Rows.measureSpansRow.laid) #[.agg #[.string ⟨#[]⟩, .string ⟨#[]⟩], .agg #[.string ⟨#[]⟩, .string ⟨#[]⟩]] (World.laidAll_os _ _ _) (by kernel_rfl) (by kernel_rfl) (by kernel_rfl)
    (OpenSpec.preRow_of_cond 8 hx (by kernel_rfl) (fun k hk=>by cases hk) (by kernel_rfl) (by rw [MakeChecks.laidMetH_plain _ _ _ (by kernel_rfl)];exact jmN os))) ?_
 intro W base args ds gs before hval hW _ _ _ hL hS _
 exact jfP H enc W base args ds gs before hval hW hL hS
theorem jp6:(Rows.measureSpansRow.inPlace==Tryz.pinned.checked.prog.inPlace 6)=true:=by kernel_rfl
theorem jq2:(Rows.measureSpansRow.unfollowed==Tryz.pinned.checked.prog.unfollowed 6)=true:=by kernel_rfl
theorem jpX:(Rows.measureSpansRow.recurses==Tryz.pinned.checked.prog.recurses 6)=true:=by kernel_rfl
theorem jq8:(Rows.measureSpansRow.named==Tryz.pinned.checked.prog.varsNamed 6)=true:=by kernel_rfl
theorem jhX:joinedFacts Tryz.pinned.checked.prog 6 Tryz.f6 (OpenSpec.ofChange Rows.measureSpansSpec).bare Rows.measureSpansRow=true:=by
 unfold joinedFacts
 rw [jp6,jq2,jpX,jq8]
 kernel_rfl
theorem jl5:Rows.MeasureSpansSaid:=
 OpenClaim.holds_of_cond 6 Tryz.f6 rfl rfl rfl rfl rfl rfl rfl ⟨rfl,rfl,rfl,rfl,rfl⟩ rfl rfl rfl rfl rfl (by kernel_rfl) Tryz.func6 jhX
  (of_decide_eq_true (by kernel_rfl)) (by unfold Func.isWrapper;first|(rw [if_pos (by decide+kernel)];kernel_rfl)|(rw [if_neg (by decide+kernel)];exact ⟨rfl,rfl⟩))
  (fun os started H enc _ F=>by rw [OpenClaim.pre_eq_preRow];exact jik os started H enc F)
theorem jj4 (f : FuncId) (fn : Func) (hf : Tryz.pinned.checked.prog.funcNamed "bushel/bushellaw01.MeasureSpans" = some f) (hfn : Tryz.pinned.checked.prog.funcs[f]? = some fn) :
  true=Tryz.pinned.checked.prog.looks []∧∀(j:Nat) t,fn.params[j]? =some t→Tryz.pinned.checked.prog.wantsStandIn t=false:=by
 obtain rfl : f = 6 := Option.some.inj ((show Tryz.prog.funcNamed "bushel/bushellaw01.MeasureSpans" = some 6 by kernel_rfl).symm.trans hf) |>.symm
 obtain rfl:fn=Tryz.f6:=(Option.some.inj (Tryz.func6.symm.trans hfn)).symm
 refine ⟨by kernel_rfl,fun j t ht=> ?_⟩
 rw [Tryz.params6] at ht
 have hm:t∈ [43,43]:=by simpa using Array.mem_of_getElem? ht
 have hall:([43,43].all fun u=> !Tryz.prog.wantsStandIn u)=true:=by kernel_rfl
 exact (show Tryz.prog.wantsStandIn t=false by simpa using List.all_eq_true.1 hall t hm)
theorem spans_card:Rows.MeasureSpansCardSaid:=
 Claim7.holds_tied_plain_at .later [] _ _ _ _ jl5 (fun _ h=>by cases h) (by kernel_rfl) (fun _ h=>by cases h) measureSpans_row_tie rfl ⟨rfl,rfl⟩ (by kernel_rfl) rfl jj4 (by kernel_rfl)
#print axioms spans_card
end Go.Proofs.YtfoolepjkhgckaaGreatDoor
