/- Parts. -/
import Derived.Test.YtdbaealhapgjaaaGreatDoorRows
import Derived.Test.YtdbaealhapgjaaaGreatDoorTq
import Derived.Test.YtdbaealhapgjaaaGreatDoorCards
import Derived.Test.YtdbaealhapgjaaaGreatDoorTie
import Derived.ProofKit
import Derived.OpenShut
import Derived.Carry
import Derived.Deep.DeepHandedRow
import Derived.Lib.LaidTab
import Derived.Stop.LaidErr
import Derived.Lay
import Derived.MakeChecks
import Derived.Shelf.Vars
import Derived.ChangeMaps5
import Derived.ChangeSame
set_option linter.all false
set_option maxRecDepth 100000
set_option maxHeartbeats 8000000
namespace Go.Proofs.YtdbaealhapgjaaaGreatDoor
open Go Go.ChangeShapes Go.WideShapes Go.ChangeAt Go.RowKit Go.Proofs.Tryz

theorem own:ownKnob prog.godebug=none:=by kernel_rfl
theorem jix:laidOutB prog=true:=by kernel_rfl
theorem jw6 : prog.globalNamed "internal/strconv.uint64pow10" = some 5 := by kernel_rfl
theorem jpM:(prog.globals[5]?).map (·.type)=some 287:=by kernel_rfl
theorem jq2:prog.cellsOf 287=20:=by kernel_rfl
theorem joE:prog.cellsOf 198=1:=by kernel_rfl
theorem laidMetH.plain {l:List (String×DataW Unit)} {W:World} (h:laidMetH prog l W) (hp:(l.all fun x=>x.2.handleName?.isNone)=true):laidMet prog l W:=by
 rw [MakeChecks.laidMetH_plain _ _ _ hp] at h;exact h
theorem jtM {W : World} {l : List (String × DataW Unit)} (h : laidMet prog (("internal/strconv.uint64pow10", Rows.laid_internal_strconv_uint64pow10) :: l) W) (hs : W.ShapedOpen prog) : Env W := by
 obtain ⟨m,hm⟩:=Go.Proofs.cell_of_shapedOpen_int (g:=0) (zero:= #[.int .i64 0]) (t:=3) hs (of_decide_eq_true (by kernel_rfl)) (by kernel_rfl) rfl (by kernel_rfl) (by kernel_rfl) underlying3;exact ⟨Lib.tabBelow_of_tabIs (Lib.tabIs_of_head (zs:=Lib.pow10Tab) jw6 jpM underlying287 underlying198 joE jq2 h),⟨m,hm⟩,World.block_lt_of_cell? W ⟨0,0,none⟩ hm⟩
end Go.Proofs.YtdbaealhapgjaaaGreatDoor
namespace Go.Proofs.YtdbaealhapgjaaaGreatDoor
open Go Go.ChangeShapes Go.WideShapes Go.ChangeAt Go.RowKit Go.ChangeMaps Go.Proofs.Tryz

theorem jmJ {H:Type} {enc:TypeId×Value→H} {W:World} {sp:Nat→Bool} {held:Bool} {r:Reach} {b0 base:Nat} {t:TypeId} {v:Value} {d:DataW H} {ps:List MemPlace} (ht:prog.underlying t=some .string) (hval:Value.okWide prog W r b0 t v) (hd:DataW.Trod enc prog W base sp held t v d ps):
  ∃a:List UInt8,v=bs a∧ps=[]:=by
 obtain ⟨s,rfl,_,rfl,_⟩:=open_string ht hval hd;exact ⟨s.data.toList,rfl,rfl⟩
end Go.Proofs.YtdbaealhapgjaaaGreatDoor
namespace Go.Proofs.YtdbaealhapgjaaaGreatDoor
open Go Go.ChangeShapes Go.WideShapes Go.ChangeAt Go.RowKit Go.Deep Go.Joins Go.Proofs.Tryz

theorem jAi {H:Type} {enc:TypeId×Value→H} {W:World} {sp:Nat→Bool} {held:Bool} {r:Reach} {b0 base:Nat} {v:Value} {d:DataW H} {ps:List MemPlace} (hval:Value.okWide prog W r b0 50 v) (hd:DataW.Trod enc prog W base sp held 50 v d ps):
  ∃(m:Int) (a:List UInt8),v=wet m a∧ps=[]:=by
 have hc:prog.cellsOf 50=2:=by kernel_rfl
 obtain ⟨f0,f1,hu,e0,e1⟩:∃f0 f1:Field,prog.underlying 50=some (.struct #[f0,f1])∧f0.type=3∧f1.type=23:=⟨_,_,underlying50,rfl,rfl⟩
 have hone:oneCellFields prog #[f0,f1]=true:=by
  have:(match prog.underlying 50 with|some (.struct fs)=>oneCellFields prog fs | _=>false)=true:=by kernel_rfl
  rw [hu] at this;exact this
 obtain ⟨v0,v1,y0,y1,n,rfl,_,hp,h0,h1⟩:=open_agg2 hu hone hc hval hd;rw [e0] at h0;rw [e1] at h1;obtain ⟨z0,k0,x0,_⟩:=DataW.trod_int underlying3 h0;obtain ⟨z1,k1,x1,_⟩:=DataW.trod_string underlying23 h1;simp at k0 k1;subst k0 k1;exact ⟨z0,z1.data.toList,rfl,by rw [hp,x0,x1];rfl⟩
end Go.Proofs.YtdbaealhapgjaaaGreatDoor
namespace Go.Proofs.YtdbaealhapgjaaaGreatDoor
open Go Go.ChangeShapes Go.WideShapes Go.ChangeAt Go.RowKit Go.Proofs.Tryz

theorem jAA (os:Os):laidMet prog Rows.topMixingRow.laid ((World.laidAll prog os Rows.topMixingRow.laid).forCall (fun _ _=>0) ⟨#[], #[.agg #[.int .i64 0, .string ⟨#[]⟩], .agg #[.int .i64 0, .string ⟨#[]⟩], .string ⟨#[]⟩],[]⟩).memory:=
 laidMet_laidAll _ (by kernel_rfl) (by kernel_rfl)
theorem jzS (os:Os) {H:Type} (enc:TypeId×Value→H):∃places,DataW.whole enc prog ((World.laidAll prog os Rows.topMixingRow.laid).forCall (fun _ _=>0) ⟨#[], #[.agg #[.int .i64 0, .string ⟨#[]⟩], .agg #[.int .i64 0, .string ⟨#[]⟩], .string ⟨#[]⟩],[]⟩).memory Tryz.f4.params.toList Rows.topMixingSpec.vars false #[Value.agg #[.int .i64 0, .string ⟨#[]⟩], .agg #[.int .i64 0, .string ⟨#[]⟩], .string ⟨#[]⟩].toList 8=some ([.agg [.lit (.int .i64 0), .lit (.string [])], .agg [.lit (.int .i64 0), .lit (.string [])], .lit (.string [])],[],places):=
 ⟨[],by kernel_rfl⟩
theorem jzo (H:Type) (enc:TypeId×Value→H) (W:World) (base:Nat) (args:Array Value) (ds gs:List (DataW H)) (before:List MemPlace)
  (hval:∀(j:Nat) t v,Tryz.f4.params[j]? =some t→args[j]? =some v→Value.okWide prog W .any base t v)
  (hW:DataW.Whole enc prog Tryz.f4.params.toList Rows.topMixingSpec.vars false W args.toList ds gs before) (hL:laidMetH prog Rows.topMixingRow.laid W) (hS:W.ShapedOpen prog):
  Calls prog 4 args W fun e W'=>∃v,e= .returned v∧Rows.topMixingSpec.post enc prog Tryz.f4 false true false false W args v W':=by
 have hE:Env W:=jtM (laidMetH.plain hL (by kernel_rfl)).tail.tail hS;have hW':=hW;obtain ⟨p,q,hA0,hV,rfl,hfz,hnd⟩:=hW;have hA:DataW.TrodAll enc prog W 0 (fun _=>true) true Tryz.f4.params.toList args.toList ds p:=hA0;rw [params4] at hA hval;obtain ⟨v0,v1,v2,d0,d1,d2,p0,p1,p2,rfl,rfl,rfl,h0,h1,h2⟩:=trodAll_three hA;obtain ⟨rfl,rfl⟩:=trodVars_none hV;obtain ⟨m0,a0,rfl,rfl⟩:=jAi (hval 0 50 v0 rfl rfl) h0;obtain ⟨m1,a1,rfl,rfl⟩:=jAi (hval 1 50 v1 rfl rfl) h1;obtain ⟨a2,rfl,rfl⟩:=jmJ underlying23 (hval 2 23 v2 rfl rfl) h2;simp only [List.append_nil,List.nil_append] at hW';have walk:Calls prog 4 #[wet m0 a0,wet m1 a1,bs a2] W fun e w'=>e= .returned (.bool true)∧Below W.heap.size W w':=jAc hE  
 refine walk.mono fun e W' ⟨he,hb⟩=> ?_
 subst he;exact ⟨_,rfl,_,_,_,[],[],[],hW',trodAll_mk1 (shut_bool underlying4 _),trodAll_mk3 (p:=[]) (p':=[]) (p'':=[]) (Below.trod jix (by kernel_rfl) (of_decide_eq_true (by kernel_rfl)) h0 hb (fun y hy=>by cases hy)) (Below.trod jix (by kernel_rfl) (of_decide_eq_true (by kernel_rfl)) h1 hb (fun y hy=>by cases hy)) (Below.trod jix (by kernel_rfl) (of_decide_eq_true (by kernel_rfl)) h2 hb (fun y hy=>by cases hy)),rfl,hb.frame _,fun h=>by cases h⟩
theorem jzC (os:Os) (started:os.Started) (H:Type) (enc:TypeId×Value→H) (F:Stop.Interp):
  ReturnsInHanded {} Tryz.checked os 4 .any ((OpenSpec.ofChange Rows.topMixingSpec).preRow enc prog Tryz.f4 Rows.topMixingRow.domain false Rows.topMixingRow.laid) (((OpenSpec.ofChange Rows.topMixingSpec).at F).post enc prog Tryz.f4 false true false false):=by
 obtain ⟨places,hx⟩:=jzS os enc
 refine returnsInHanded_of_row (C:=Tryz.checked) (s:=OpenSpec.ofChange Rows.topMixingSpec) own started (by kernel_rfl) func4
  (witness_row_at (enc:=enc) (C:=Tryz.checked) false (World.laidAll prog os Rows.topMixingRow.laid) #[.agg #[.int .i64 0, .string ⟨#[]⟩], .agg #[.int .i64 0, .string ⟨#[]⟩], .string ⟨#[]⟩] (World.laidAll_os _ _ _) (by kernel_rfl) (by kernel_rfl) (by kernel_rfl)
    (OpenSpec.preRow_of_cond 8 hx (by kernel_rfl) (fun k hk=>by cases hk) (by kernel_rfl) (by rw [MakeChecks.laidMetH_plain _ _ _ (by kernel_rfl)];exact jAA os))) ?_
 intro W base args ds gs before hval hW _ _ _ hL hS _;exact jzo H enc W base args ds gs before hval hW hL hS
theorem jAI:(Rows.topMixingRow.inPlace==Tryz.pinned.checked.prog.inPlace 4)=true:=by kernel_rfl
theorem jB1:(Rows.topMixingRow.unfollowed==Tryz.pinned.checked.prog.unfollowed 4)=true:=by kernel_rfl
theorem jAO:(Rows.topMixingRow.recurses==Tryz.pinned.checked.prog.recurses 4)=true:=by kernel_rfl
theorem jB3:(Rows.topMixingRow.named==Tryz.pinned.checked.prog.varsNamed 4)=true:=by kernel_rfl
theorem jzx:joinedFacts Tryz.pinned.checked.prog 4 Tryz.f4 (OpenSpec.ofChange Rows.topMixingSpec).bare Rows.topMixingRow=true:=by
 unfold joinedFacts;rw [jAI,jB1,jAO,jB3]
 kernel_rfl
theorem jAb:Rows.TopMixingSaid:=
 OpenClaim.holds_of_cond 4 Tryz.f4 rfl rfl rfl rfl rfl rfl rfl ⟨rfl,rfl,rfl,rfl,rfl⟩ rfl rfl rfl rfl rfl (by kernel_rfl) func4 jzx
  (of_decide_eq_true (by kernel_rfl)) (by unfold Func.isWrapper;first|(rw [if_pos (by decide+kernel)];kernel_rfl)|(rw [if_neg (by decide+kernel)];exact ⟨rfl,rfl⟩))
  (fun os started H enc _ F=>by rw [OpenClaim.pre_eq_preRow];exact jzC os started H enc F)
theorem jzR (f : FuncId) (fn : Func) (hf : Tryz.pinned.checked.prog.funcNamed "bushel/busheltop.TopMixing" = some f) (hfn : Tryz.pinned.checked.prog.funcs[f]? = some fn) :
  true=Tryz.pinned.checked.prog.looks []∧∀(j:Nat) t,fn.params[j]? =some t→Tryz.pinned.checked.prog.wantsStandIn t=false:=by
 obtain rfl : f = 4 := Option.some.inj ((show prog.funcNamed "bushel/busheltop.TopMixing" = some 4 by kernel_rfl).symm.trans hf) |>.symm
 obtain rfl:fn=Tryz.f4:=(Option.some.inj (func4.symm.trans hfn)).symm;refine ⟨by kernel_rfl,fun j t ht=> ?_⟩;rw [params4] at ht;have hm:t∈ [50,50,23]:=by simpa using Array.mem_of_getElem? ht
 have hall:([50,50,23].all fun u=> !prog.wantsStandIn u)=true:=by kernel_rfl
 exact (show prog.wantsStandIn t=false by simpa using List.all_eq_true.1 hall t hm)
theorem mixing_card:Rows.TopMixingCardSaid:=
 Claim7.holds_tied_plain_at .later [] _ _ _ _ jAb (fun _ h=>by cases h) (by kernel_rfl) (fun _ h=>by cases h) topMixing_row_tie rfl ⟨rfl,rfl⟩ (by kernel_rfl) rfl jzR (by kernel_rfl)
#print axioms mixing_card
end Go.Proofs.YtdbaealhapgjaaaGreatDoor
