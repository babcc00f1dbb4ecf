/- Parts. -/
import Derived.Test.YteokfcjdfjhhhaaGreatDoorCards
import Derived.Test.YteokfcjdfjhhhaaGreatDoorTie
import Derived.Test.YteokfcjdfjhhhaaGreatDoorSc
import Derived.Test.YteokfcjdfjhhhaaGreatDoorRy
set_option linter.all false
set_option maxRecDepth 100000
set_option maxHeartbeats 8000000
namespace Go.Proofs.YteokfcjdfjhhhaaGreatDoor
open Go Go.ChangeShapes Go.WideShapes Go.ChangeAt Go.RowKit

theorem jtx {H:Type} {enc:TypeId×Value→H} {W:World} {A:Option Addr} {n c fuel:Nat} {x:DataW H×List MemPlace} (h:DataW.trod enc Tryz.prog W 0 (fun _=>true) true fuel 22 [.slice A n c]=some x):n≤c:=by
 rcases Go.Deep.open_slice Tryz.underlying22 h with ⟨hcs,_⟩|⟨a,len,cap,m,fu,D,Pl,hcs,_,hl,_⟩
 ·simp at hcs;omega
 ·simp at hcs;omega
theorem jtD (os:Os):laidMet Tryz.prog Rows.measureMixedRow.laid ((World.laidAll Tryz.prog os Rows.measureMixedRow.laid).forCall (fun _ _=>0) ⟨#[], #[.slice none 0 0, .int .u8 0],[]⟩).memory:=
 laidMet_laidAll _ (by kernel_rfl) (by kernel_rfl)
theorem jtk (os:Os) {H:Type} (enc:TypeId×Value→H):∃places,DataW.whole enc Tryz.prog ((World.laidAll Tryz.prog os Rows.measureMixedRow.laid).forCall (fun _ _=>0) ⟨#[], #[.slice none 0 0, .int .u8 0],[]⟩).memory Tryz.f4.params.toList Rows.measureMixedSpec.vars false #[Value.slice none 0 0, .int .u8 0].toList 8=some ([.nil, .lit (.int .u8 0)],[],places):=
 ⟨[],by kernel_rfl⟩
theorem jtc (H:Type) (enc:TypeId×Value→H) (W:World) (base:Nat) (args:Array Value) (ds gs:List (DataW H)) (before:List MemPlace)
  (hval:∀(j:Nat) t v,Tryz.f4.params[j]? =some t→args[j]? =some v→Value.okWide Tryz.prog W .any base t v)
  (hW:DataW.Whole enc Tryz.prog Tryz.f4.params.toList Rows.measureMixedSpec.vars false W args.toList ds gs before) (hL:laidMetH Tryz.prog Rows.measureMixedRow.laid W) (hS:W.ShapedOpen Tryz.prog):
  Calls Tryz.prog 4 args W fun e W'=>∃v,e= .returned v∧Rows.measureMixedSpec.post enc Tryz.prog Tryz.f4 false true false false W args v W':=by
 have hE:Env W:=jrJ (laidMetH.plain hL (by kernel_rfl)).tail.tail hS;have hW':=hW;obtain ⟨p,q,hA0,hV,rfl,hfz,hnd⟩:=hW;have hA:DataW.TrodAll enc Tryz.prog W 0 (fun _=>true) true Tryz.f4.params.toList args.toList ds p:=hA0;rw [Tryz.params4] at hA hval;obtain ⟨v0,v1,d0,d1,p0,p1,rfl,rfl,rfl,h0,h1⟩:=trodAll_two hA;obtain ⟨rfl,rfl⟩:=trodVars_none hV;obtain ⟨A0,n0,c0,rfl⟩:=okWide_slice Tryz.underlying22 (hval 0 22 v0 rfl rfl);have h0k:=h0;obtain ⟨fuel0,hf0⟩:=h0;obtain ⟨x1,rfl,rfl,rfl,wx1⟩:=open_int Tryz.underlying5 (hval 1 5 v1 rfl rfl) h1;simp only [List.append_nil,List.nil_append] at hW';have hlt0:∀y∈p0,y.block < W.heap.size:=fun y hy=>by simpa using hW'.lt y (by simp [hy])
 obtain ⟨ls0,hv0,hr0⟩:=jiD hf0;have hx:0≤x1∧x1≤255:=by simpa [Lit.wf,IntKind.min,IntKind.max,IntKind.signed,IntKind.bits] using wx1
 have walk:Calls Tryz.prog 4 #[.slice A0 n0 c0, .int .u8 x1] W fun e w'=>e= .returned (.bool true)∧Below W.heap.size W w':=jty hE (by omega) hv0 hr0 (jtx hf0)
 refine walk.mono fun e W' ⟨he,hb⟩=> ?_
 subst he
 exact ⟨_,rfl,_,_,_,[],p0,[],hW',trodAll_mk1 (shut_bool Tryz.underlying4 _),(by
  have tm:=trodAll_mk2 (p:=p0) (p':=[]) (Below.trod jqo (by kernel_rfl) (of_decide_eq_true (by kernel_rfl)) h0k hb hlt0) (Below.trod jqo (by kernel_rfl) (of_decide_eq_true (by kernel_rfl)) h1 hb (fun y hy=>by cases hy));rw [List.append_nil] at tm
  exact tm),rfl,hb.frame _,fun h=>by cases h⟩
theorem jte (os:Os) (started:os.Started) (H:Type) (enc:TypeId×Value→H) (F:Stop.Interp):
  ReturnsInHanded {} Tryz.checked os 4 .any ((OpenSpec.ofChange Rows.measureMixedSpec).preRow enc Tryz.prog Tryz.f4 Rows.measureMixedRow.domain false Rows.measureMixedRow.laid) (((OpenSpec.ofChange Rows.measureMixedSpec).at F).post enc Tryz.prog Tryz.f4 false true false false):=by
 obtain ⟨places,hx⟩:=jtk os enc
 refine returnsInHanded_of_row (C:=Tryz.checked) (s:=OpenSpec.ofChange Rows.measureMixedSpec) own started (by kernel_rfl) Tryz.func4
  (witness_row_at (enc:=enc) (C:=Tryz.checked) false (World.laidAll Tryz.prog os Rows.measureMixedRow.laid) #[.slice none 0 0, .int .u8 0] (World.laidAll_os _ _ _) (by kernel_rfl) (by kernel_rfl) (by kernel_rfl)
    (OpenSpec.preRow_of_cond 8 hx (by kernel_rfl) (fun k hk=>by cases hk) (by kernel_rfl) (by rw [MakeChecks.laidMetH_plain _ _ _ (by kernel_rfl)];exact jtD os))) ?_
 intro W base args ds gs before hval hW _ _ _ hL hS _;exact jtc H enc W base args ds gs before hval hW hL hS
theorem jtL:(Rows.measureMixedRow.inPlace==Tryz.pinned.checked.prog.inPlace 4)=true:=by kernel_rfl
theorem jtH:(Rows.measureMixedRow.unfollowed==Tryz.pinned.checked.prog.unfollowed 4)=true:=by kernel_rfl
theorem jtG:(Rows.measureMixedRow.recurses==Tryz.pinned.checked.prog.recurses 4)=true:=by kernel_rfl
theorem jtI:(Rows.measureMixedRow.named==Tryz.pinned.checked.prog.varsNamed 4)=true:=by kernel_rfl
theorem jtf:joinedFacts Tryz.pinned.checked.prog 4 Tryz.f4 (OpenSpec.ofChange Rows.measureMixedSpec).bare Rows.measureMixedRow=true:=by
 unfold joinedFacts;rw [jtL,jtH,jtG,jtI]
 kernel_rfl
theorem jtA:Rows.MeasureMixedSaid:=
 OpenClaim.holds_of_cond 4 Tryz.f4 rfl rfl rfl rfl rfl rfl rfl ⟨rfl,rfl,rfl,rfl,rfl⟩ rfl rfl rfl rfl rfl (by kernel_rfl) Tryz.func4 jtf
  (of_decide_eq_true (by kernel_rfl)) (by unfold Func.isWrapper;first|(rw [if_pos (by decide+kernel)];kernel_rfl)|(rw [if_neg (by decide+kernel)];exact ⟨rfl,rfl⟩))
  (fun os started H enc _ F=>by rw [OpenClaim.pre_eq_preRow];exact jte os started H enc F)
theorem jtn (f : FuncId) (fn : Func) (hf : Tryz.pinned.checked.prog.funcNamed "bushel/bushellaw01.MeasureMixed" = some f) (hfn : Tryz.pinned.checked.prog.funcs[f]? = some fn) :
  true=Tryz.pinned.checked.prog.looks []∧∀(j:Nat) t,fn.params[j]? =some t→Tryz.pinned.checked.prog.wantsStandIn t=false:=by
 obtain rfl : f = 4 := Option.some.inj ((show Tryz.prog.funcNamed "bushel/bushellaw01.MeasureMixed" = some 4 by kernel_rfl).symm.trans hf) |>.symm
 obtain rfl:fn=Tryz.f4:=(Option.some.inj (Tryz.func4.symm.trans hfn)).symm;refine ⟨by kernel_rfl,fun j t ht=> ?_⟩;rw [Tryz.params4] at ht;have hm:t∈ [22,5]:=by simpa using Array.mem_of_getElem? ht
 have hall:([22,5].all fun u=> !Tryz.prog.wantsStandIn u)=true:=by kernel_rfl
 exact (show Tryz.prog.wantsStandIn t=false by simpa using List.all_eq_true.1 hall t hm)
theorem mixed_card:Rows.MeasureMixedCardSaid:=
 Claim7.holds_tied_plain_at .later [] _ _ _ _ jtA (fun _ h=>by cases h) (by kernel_rfl) (fun _ h=>by cases h) measureMixed_row_tie rfl ⟨rfl,rfl⟩ (by kernel_rfl) rfl jtn (by kernel_rfl)
#print axioms mixed_card
end Go.Proofs.YteokfcjdfjhhhaaGreatDoor
