/- Parts. -/
import Derived.Test.YtomkgioebbefnaaGreatDoorCards
import Derived.Test.YtomkgioebbefnaaGreatDoorTie
import Derived.Test.YtomkgioebbefnaaGreatDoorGc
set_option linter.all false
set_option maxRecDepth 100000
set_option maxHeartbeats 8000000
namespace Go.Proofs.YtomkgioebbefnaaGreatDoor
open Go Go.ChangeShapes Go.WideShapes Go.ChangeAt Go.RowKit

theorem jh8 (os:Os):laidMet Tryz.prog Rows.measureEnclosesRow.laid ((World.laidAll Tryz.prog os Rows.measureEnclosesRow.laid).forCall (fun _ _=>0) ⟨#[], #[.agg #[.string ⟨#[]⟩, .string ⟨#[]⟩, .string ⟨#[]⟩, .string ⟨#[]⟩, .string ⟨#[]⟩, .string ⟨#[]⟩], .agg #[.int .u8 0, .int .u8 0, .int .u8 0], .agg #[.int .u8 0, .int .u8 0, .int .u8 0]],[]⟩).memory:=
 laidMet_laidAll _ (by kernel_rfl) (by kernel_rfl)
theorem jeZ (os:Os) {H:Type} (enc:TypeId×Value→H):∃places,DataW.whole enc Tryz.prog ((World.laidAll Tryz.prog os Rows.measureEnclosesRow.laid).forCall (fun _ _=>0) ⟨#[], #[.agg #[.string ⟨#[]⟩, .string ⟨#[]⟩, .string ⟨#[]⟩, .string ⟨#[]⟩, .string ⟨#[]⟩, .string ⟨#[]⟩], .agg #[.int .u8 0, .int .u8 0, .int .u8 0], .agg #[.int .u8 0, .int .u8 0, .int .u8 0]],[]⟩).memory Tryz.f3.params.toList Rows.measureEnclosesSpec.vars false #[Value.agg #[.string ⟨#[]⟩, .string ⟨#[]⟩, .string ⟨#[]⟩, .string ⟨#[]⟩, .string ⟨#[]⟩, .string ⟨#[]⟩], .agg #[.int .u8 0, .int .u8 0, .int .u8 0], .agg #[.int .u8 0, .int .u8 0, .int .u8 0]].toList 8=some ([.agg [.agg [.lit (.string []), .lit (.string [])], .agg [.lit (.string []), .lit (.string [])], .agg [.lit (.string []), .lit (.string [])]], .agg [.lit (.int .u8 0), .lit (.int .u8 0), .lit (.int .u8 0)], .agg [.lit (.int .u8 0), .lit (.int .u8 0), .lit (.int .u8 0)]],[],places):=
 ⟨[],by kernel_rfl⟩
theorem jdu (H:Type) (enc:TypeId×Value→H) (W:World) (base:Nat) (args:Array Value) (ds gs:List (DataW H)) (before:List MemPlace)
  (hval:∀(j:Nat) t v,Tryz.f3.params[j]? =some t→args[j]? =some v→Value.okWide Tryz.prog W .any base t v)
  (hW:DataW.Whole enc Tryz.prog Tryz.f3.params.toList Rows.measureEnclosesSpec.vars false W args.toList ds gs before) (hL:laidMetH Tryz.prog Rows.measureEnclosesRow.laid W) (hS:W.ShapedOpen Tryz.prog):
  Calls Tryz.prog 3 args W fun e W'=>∃v,e= .returned v∧Rows.measureEnclosesSpec.post enc Tryz.prog Tryz.f3 false true false false W args v W':=by
 have hE:Env W:=jqy (laidMetH.plain hL (by kernel_rfl)).tail.tail hS
 have hW':=hW
 obtain ⟨p,q,hA0,hV,rfl,hfz,hnd⟩:=hW
 have hA:DataW.TrodAll enc Tryz.prog W 0 (fun _=>true) true Tryz.f3.params.toList args.toList ds p:=hA0
 rw [Tryz.params3] at hA hval
 obtain ⟨v0,v1,v2,d0,d1,d2,p0,p1,p2,rfl,rfl,rfl,h0,h1,h2⟩:=trodAll_three hA
 obtain ⟨rfl,rfl⟩:=trodVars_none hV
 obtain ⟨s0_1,s0_2,s0_3,s0_4,s0_5,s0_6,rfl,rfl⟩:=jhF (hval 0 25 v0 rfl rfl) h0
 obtain ⟨n1_1,n1_2,n1_3,rfl,rfl,w1_1,w1_2,w1_3⟩:=jek (hval 1 26 v1 rfl rfl) h1
 obtain ⟨n2_1,n2_2,n2_3,rfl,rfl,w2_1,w2_2,w2_3⟩:=jek (hval 2 26 v2 rfl rfl) h2
 simp only [List.append_nil,List.nil_append] at hW'
 have walk:Calls Tryz.prog 3 #[.agg #[bs s0_1,bs s0_2,bs s0_3,bs s0_4,bs s0_5,bs s0_6], .agg #[.int .u8 n1_1, .int .u8 n1_2, .int .u8 n1_3], .agg #[.int .u8 n2_1, .int .u8 n2_2, .int .u8 n2_3]] W fun e w'=>e= .returned (.bool true)∧Below W.heap.size W w':=jnJ hE w1_1 w1_2 w1_3 w2_1 w2_2 w2_3
 refine walk.mono fun e W' ⟨he,hb⟩=> ?_
 subst he
 exact ⟨_,rfl,_,_,_,[],[],[],hW',trodAll_mk1 (shut_bool Tryz.underlying4 _),trodAll_mk3 (p:=[]) (p':=[]) (p'':=[]) (Below.trod jhN (by kernel_rfl) (of_decide_eq_true (by kernel_rfl)) h0 hb (fun y hy=>by cases hy)) (Below.trod jhN (by kernel_rfl) (of_decide_eq_true (by kernel_rfl)) h1 hb (fun y hy=>by cases hy)) (Below.trod jhN (by kernel_rfl) (of_decide_eq_true (by kernel_rfl)) h2 hb (fun y hy=>by cases hy)),rfl,hb.frame _,fun h=>by cases h⟩
theorem jeQ (os:Os) (started:os.Started) (H:Type) (enc:TypeId×Value→H) (F:Stop.Interp):
  ReturnsInHanded {} Tryz.checked os 3 .any ((OpenSpec.ofChange Rows.measureEnclosesSpec).preRow enc Tryz.prog Tryz.f3 Rows.measureEnclosesRow.domain false Rows.measureEnclosesRow.laid) (((OpenSpec.ofChange Rows.measureEnclosesSpec).at F).post enc Tryz.prog Tryz.f3 false true false false):=by
 obtain ⟨places,hx⟩:=jeZ os enc
 refine returnsInHanded_of_row (C:=Tryz.checked) (s:=OpenSpec.ofChange Rows.measureEnclosesSpec) own started (by kernel_rfl) Tryz.func3
  (witness_row_at (enc:=enc) (C:=Tryz.checked) false (World.laidAll Tryz.prog os Rows.measureEnclosesRow.laid) #[.agg #[.string ⟨#[]⟩, .string ⟨#[]⟩, .string ⟨#[]⟩, .string ⟨#[]⟩, .string ⟨#[]⟩, .string ⟨#[]⟩], .agg #[.int .u8 0, .int .u8 0, .int .u8 0], .agg #[.int .u8 0, .int .u8 0, .int .u8 0]] (World.laidAll_os _ _ _) (by kernel_rfl) (by kernel_rfl) (by kernel_rfl)
    (OpenSpec.preRow_of_cond 8 hx (by kernel_rfl) (fun k hk=>by cases hk) (by kernel_rfl) (by rw [MakeChecks.laidMetH_plain _ _ _ (by kernel_rfl)];exact jh8 os))) ?_
 intro W base args ds gs before hval hW _ _ _ hL hS _
 exact jdu H enc W base args ds gs before hval hW hL hS
theorem jih:(Rows.measureEnclosesRow.inPlace==Tryz.pinned.checked.prog.inPlace 3)=true:=by kernel_rfl
theorem jhX:(Rows.measureEnclosesRow.unfollowed==Tryz.pinned.checked.prog.unfollowed 3)=true:=by kernel_rfl
theorem jhV:(Rows.measureEnclosesRow.recurses==Tryz.pinned.checked.prog.recurses 3)=true:=by kernel_rfl
theorem jhU:(Rows.measureEnclosesRow.named==Tryz.pinned.checked.prog.varsNamed 3)=true:=by kernel_rfl
theorem jet:joinedFacts Tryz.pinned.checked.prog 3 Tryz.f3 (OpenSpec.ofChange Rows.measureEnclosesSpec).bare Rows.measureEnclosesRow=true:=by
 unfold joinedFacts
 rw [jih,jhX,jhV,jhU]
 kernel_rfl
theorem jfX:Rows.MeasureEnclosesSaid:=
 OpenClaim.holds_of_cond 3 Tryz.f3 rfl rfl rfl rfl rfl rfl rfl ⟨rfl,rfl,rfl,rfl,rfl⟩ rfl rfl rfl rfl rfl (by kernel_rfl) Tryz.func3 jet
  (of_decide_eq_true (by kernel_rfl)) (by unfold Func.isWrapper;first|(rw [if_pos (by decide+kernel)];kernel_rfl)|(rw [if_neg (by decide+kernel)];exact ⟨rfl,rfl⟩))
  (fun os started H enc _ F=>by rw [OpenClaim.pre_eq_preRow];exact jeQ os started H enc F)
theorem jf5 (f : FuncId) (fn : Func) (hf : Tryz.pinned.checked.prog.funcNamed "bushel/bushellaw01.MeasureEncloses" = some f) (hfn : Tryz.pinned.checked.prog.funcs[f]? = some fn) :
  true=Tryz.pinned.checked.prog.looks []∧∀(j:Nat) t,fn.params[j]? =some t→Tryz.pinned.checked.prog.wantsStandIn t=false:=by
 obtain rfl : f = 3 := Option.some.inj ((show Tryz.prog.funcNamed "bushel/bushellaw01.MeasureEncloses" = some 3 by kernel_rfl).symm.trans hf) |>.symm
 obtain rfl:fn=Tryz.f3:=(Option.some.inj (Tryz.func3.symm.trans hfn)).symm
 refine ⟨by kernel_rfl,fun j t ht=> ?_⟩
 rw [Tryz.params3] at ht
 have hm:t∈ [25,26,26]:=by simpa using Array.mem_of_getElem? ht
 have hall:([25,26,26].all fun u=> !Tryz.prog.wantsStandIn u)=true:=by kernel_rfl
 exact (show Tryz.prog.wantsStandIn t=false by simpa using List.all_eq_true.1 hall t hm)
theorem encloses_card:Rows.MeasureEnclosesCardSaid:=
 Claim7.holds_tied_plain_at .later [] _ _ _ _ jfX (fun _ h=>by cases h) (by kernel_rfl) (fun _ h=>by cases h) measureEncloses_row_tie rfl ⟨rfl,rfl⟩ (by kernel_rfl) rfl jf5 (by kernel_rfl)
#print axioms encloses_card
end Go.Proofs.YtomkgioebbefnaaGreatDoor
