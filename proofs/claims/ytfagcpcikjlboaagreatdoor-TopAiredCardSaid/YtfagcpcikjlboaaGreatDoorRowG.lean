/- Parts. -/
import Derived.Test.YtfagcpcikjlboaaGreatDoorRows
import Derived.Test.YtfagcpcikjlboaaGreatDoorCards
import Derived.Test.YtfagcpcikjlboaaGreatDoorTie
import Derived.Test.YtfagcpcikjlboaaGreatDoorUi
import Derived.ProofKit
import Derived.OpenShut
import Derived.Carry
import Derived.Deep.DeepHandedRow
import Derived.Lib.LaidTab
import Derived.Stop.LaidErr
import Derived.Lay
import Derived.MakeChecks
import Derived.Shelf.Vars
import Derived.ChangeMaps5
import Derived.ChangeSame
import Derived.Deep.SlicePairs
set_option linter.all false
set_option maxRecDepth 100000
set_option maxHeartbeats 8000000
namespace Go.Proofs.YtfagcpcikjlboaaGreatDoor
open Go Go.ChangeShapes Go.WideShapes Go.ChangeAt Go.RowKit Go.Proofs.Tryz

theorem own:ownKnob prog.godebug=none:=by kernel_rfl
theorem jix:laidOutB prog=true:=by kernel_rfl
theorem jw6 : prog.globalNamed "internal/strconv.uint64pow10" = some 5 := by kernel_rfl
theorem jpM:(prog.globals[5]?).map (·.type)=some 275:=by kernel_rfl
theorem jq2:prog.cellsOf 275=20:=by kernel_rfl
theorem joE:prog.cellsOf 168=1:=by kernel_rfl
theorem laidMetH.plain {l:List (String×DataW Unit)} {W:World} (h:laidMetH prog l W) (hp:(l.all fun x=>x.2.handleName?.isNone)=true):laidMet prog l W:=by
 rw [MakeChecks.laidMetH_plain _ _ _ hp] at h;exact h
theorem jtM {W : World} {l : List (String × DataW Unit)} (h : laidMet prog (("internal/strconv.uint64pow10", Rows.laid_internal_strconv_uint64pow10) :: l) W) (hs : W.ShapedOpen prog) : Env W := by
 obtain ⟨m,hm⟩:=Go.Proofs.cell_of_shapedOpen_int (g:=0) (zero:= #[.int .i64 0]) (t:=3) hs (of_decide_eq_true (by kernel_rfl)) (by kernel_rfl) rfl (by kernel_rfl) (by kernel_rfl) underlying3;exact ⟨Lib.tabBelow_of_tabIs (Lib.tabIs_of_head (zs:=Lib.pow10Tab) jw6 jpM underlying275 underlying168 joE jq2 h),⟨m,hm⟩,World.block_lt_of_cell? W ⟨0,0,none⟩ hm⟩
end Go.Proofs.YtfagcpcikjlboaaGreatDoor
namespace Go.Proofs.YtfagcpcikjlboaaGreatDoor
open Go Go.ChangeShapes Go.WideShapes Go.ChangeAt Go.RowKit Go.ChangeMaps Go.Proofs.Tryz

theorem jmJ {H:Type} {enc:TypeId×Value→H} {W:World} {sp:Nat→Bool} {held:Bool} {r:Reach} {b0 base:Nat} {t:TypeId} {v:Value} {d:DataW H} {ps:List MemPlace} (ht:prog.underlying t=some .string) (hval:Value.okWide prog W r b0 t v) (hd:DataW.Trod enc prog W base sp held t v d ps):
  ∃a:List UInt8,v=bs a∧ps=[]:=by
 obtain ⟨s,rfl,_,rfl,_⟩:=open_string ht hval hd;exact ⟨s.data.toList,rfl,rfl⟩
theorem jAI {H:Type} {enc:TypeId×Value→H} {W:World} {sp:Nat→Bool} {held:Bool} {r:Reach} {b0 base:Nat} {t:TypeId} {f0 f1:Field} {v:Value} {d:DataW H} {ps:List MemPlace} (ht:prog.underlying t=some (.struct #[f0,f1])) (hc:prog.cellsOf t=2)
  (h0:prog.underlying f0.type=some .string) (h1:prog.underlying f1.type=some .string) (c0:prog.cellsOf f0.type=1) (c1:prog.cellsOf f1.type=1) (o0:f0.offset=0) (o1:f1.offset=1)
  (hval:Value.okWide prog W r b0 t v) (hd:DataW.Trod enc prog W base sp held t v d ps):
  ∃a b:List UInt8,v= .agg #[bs a,bs b]∧ps=[]:=by
 obtain ⟨cs,rfl,hcs⟩:=okWide_struct ht hval;rw [hc] at hcs
 obtain ⟨u,v,rfl⟩:∃u v,cs= #[u,v]:=by
  match cs,hcs with
  | ⟨[u,v]⟩,_=>exact ⟨u,v,rfl⟩
 obtain ⟨fuel,hf⟩:=hd;obtain ⟨y0,y1,n,hx,_,e0,e1⟩:=trod_struct2 ht hf;rw [c0,o0] at e0;rw [c1,o1] at e1;obtain ⟨s0,k0,x0,_⟩:=DataW.trod_string h0 e0;obtain ⟨s1,k1,x1,_⟩:=DataW.trod_string h1 e1;have hp:=congrArg Prod.snd hx;rw [x0,x1] at hp;simp [Value.cells] at k0 k1 hp;subst k0 k1 hp;exact ⟨s0.data.toList,s1.data.toList,rfl,rfl⟩

section
variable {H:Type} {enc:TypeId×Value→H} {W:World} {sp:Nat→Bool} {held:Bool} {r:Reach} {b0 base:Nat} {v:Value} {d:DataW H} {ps:List MemPlace}
end
end Go.Proofs.YtfagcpcikjlboaaGreatDoor
namespace Go.Proofs.YtfagcpcikjlboaaGreatDoor
open Go Go.ChangeShapes Go.WideShapes Go.ChangeAt Go.RowKit Go.ChangeMaps Go.Deep Go.Joins Go.Proofs.Tryz

theorem jxP {H:Type} {enc:TypeId×Value→H} {W:World} {A:Option Addr} {n c fuel:Nat} {x:DataW H×List MemPlace} (h:DataW.trod enc prog W 0 (fun _=>true) true fuel 22 [.slice A n c]=some x):(∃ls,Hv6 W A n ls)∧n≤c:=by
 rcases Go.Deep.open_slice_pairs underlying22 underlying31 (by kernel_rfl) rfl rfl (by kernel_rfl) (by kernel_rfl) h with ⟨hcs,_⟩|⟨a,len,cap,m,fu,V0,V1,D0,D1,P0,P1,hcs,_,hl,hm,hz,_,hcell⟩
 ·simp at hcs;obtain ⟨rfl,rfl,rfl⟩:=hcs;exact ⟨⟨[],rfl,fun h=>by omega⟩,Nat.le_refl _⟩
 ·simp at hcs;obtain ⟨rfl,rfl,rfl⟩:=hcs;simp only [if_true] at hz;obtain ⟨b,off,spot⟩:=a
  have s0:∀i,i < m→∃s:Int,V0 i= .int .i64 s:=fun i hi=>by
   obtain ⟨s,h1,_,_⟩:=DataW.trod_int underlying3 (hcell i hi).2.2.1;exact ⟨s,by simpa using h1⟩
  have s1:∀i,i < m→∃s:Int,V1 i= .int .i64 s:=fun i hi=>by
   obtain ⟨s,h1,_,_⟩:=DataW.trod_int underlying3 (hcell i hi).2.2.2;exact ⟨s,by simpa using h1⟩
  let num:Value→Int:=fun v=>match v with | .int _ s=>s | _=>0
  refine ⟨⟨(List.range n).map fun i=>(num (V0 i),num (V1 i)),by simp,fun h0=> ?_⟩,hl⟩;have hspot:spot=none:=by simpa [Addr.add] using World.cell?_spot (hcell 0 (by omega)).1
  subst hspot;have e0:∀i,(⟨b,off,none⟩:Addr).add i=⟨b,off+i,none⟩:=fun i=>by unfold Addr.add;split <;> simp_all
  refine ⟨b,off,rfl,World.block_lt_of_cell? W _ (hcell 0 (by omega)).1,fun j hj=> ?_⟩;rw [List.length_map,List.length_range] at hj;have hj':j < m:=by omega
  obtain ⟨c0,c1,_,_⟩:=hcell j hj';obtain ⟨t0,q0⟩:=s0 j hj';obtain ⟨t1,q1⟩:=s1 j hj';rw [e0,q0] at c0;rw [e0,q1] at c1;rw [List.getD_eq_getElem?_getD,List.getElem?_map,List.getElem?_range hj,Option.map_some,Option.getD_some,c0,q0,q1];rw [←Nat.add_assoc] at c1;rw [c1];exact ⟨rfl,rfl⟩
end Go.Proofs.YtfagcpcikjlboaaGreatDoor
namespace Go.Proofs.YtfagcpcikjlboaaGreatDoor
open Go Go.ChangeShapes Go.WideShapes Go.ChangeAt Go.RowKit Go.Proofs.Tryz

theorem jAW (os:Os):laidMet prog Rows.topAiredRow.laid ((World.laidAll prog os Rows.topAiredRow.laid).forCall (fun _ _=>0) ⟨#[], #[.slice none 0 0, .agg #[.string ⟨#[]⟩, .string ⟨#[]⟩], .string ⟨#[]⟩],[]⟩).memory:=
 laidMet_laidAll _ (by kernel_rfl) (by kernel_rfl)
theorem jAe (os:Os) {H:Type} (enc:TypeId×Value→H):∃places,DataW.whole enc prog ((World.laidAll prog os Rows.topAiredRow.laid).forCall (fun _ _=>0) ⟨#[], #[.slice none 0 0, .agg #[.string ⟨#[]⟩, .string ⟨#[]⟩], .string ⟨#[]⟩],[]⟩).memory Tryz.f3.params.toList Rows.topAiredSpec.vars false #[Value.slice none 0 0, .agg #[.string ⟨#[]⟩, .string ⟨#[]⟩], .string ⟨#[]⟩].toList 8=some ([.nil, .agg [.lit (.string []), .lit (.string [])], .lit (.string [])],[],places):=
 ⟨[],by kernel_rfl⟩
theorem jzB (H:Type) (enc:TypeId×Value→H) (W:World) (base:Nat) (args:Array Value) (ds gs:List (DataW H)) (before:List MemPlace)
  (hval:∀(j:Nat) t v,Tryz.f3.params[j]? =some t→args[j]? =some v→Value.okWide prog W .any base t v)
  (hW:DataW.Whole enc prog Tryz.f3.params.toList Rows.topAiredSpec.vars false W args.toList ds gs before) (hL:laidMetH prog Rows.topAiredRow.laid W) (hS:W.ShapedOpen prog):
  Calls prog 3 args W fun e W'=>∃v,e= .returned v∧Rows.topAiredSpec.post enc prog Tryz.f3 false true false false W args v W':=by
 have hE:Env W:=jtM (laidMetH.plain hL (by kernel_rfl)).tail.tail hS;have hW':=hW;obtain ⟨p,q,hA0,hV,rfl,hfz,hnd⟩:=hW;have hA:DataW.TrodAll enc prog W 0 (fun _=>true) true Tryz.f3.params.toList args.toList ds p:=hA0;rw [params3] at hA hval;obtain ⟨v0,v1,v2,d0,d1,d2,p0,p1,p2,rfl,rfl,rfl,h0,h1,h2⟩:=trodAll_three hA;obtain ⟨rfl,rfl⟩:=trodVars_none hV;obtain ⟨A0,n0,c0,rfl⟩:=okWide_slice underlying22 (hval 0 22 v0 rfl rfl);have h0k:=h0;obtain ⟨fuel0,hf0⟩:=h0;obtain ⟨a1,b1,rfl,rfl⟩:=jAI underlying25 (by kernel_rfl) (by kernel_rfl) (by kernel_rfl) (by kernel_rfl) (by kernel_rfl) rfl rfl (hval 1 25 v1 rfl rfl) h1;obtain ⟨a2,rfl,rfl⟩:=jmJ underlying23 (hval 2 23 v2 rfl rfl) h2;simp only [List.append_nil,List.nil_append] at hW';have hlt0:∀y∈p0,y.block < W.heap.size:=fun y hy=>by simpa using hW'.lt y (by simp [hy])
 obtain ⟨⟨ls0,hv0⟩,hc0⟩:=jxP hf0;have walk:Calls prog 3 #[.slice A0 n0 c0, .agg #[bs a1,bs b1],bs a2] W fun e w'=>e= .returned (.bool true)∧Below W.heap.size W w':=jAl hE hv0 hc0  
 refine walk.mono fun e W' ⟨he,hb⟩=> ?_
 subst he;exact ⟨_,rfl,_,_,_,[],p0,[],hW',trodAll_mk1 (shut_bool underlying4 _),(by have h:=trodAll_mk3 (p:=p0) (p':=[]) (p'':=[]) (Below.trod jix (by kernel_rfl) (of_decide_eq_true (by kernel_rfl)) h0k hb hlt0) (Below.trod jix (by kernel_rfl) (of_decide_eq_true (by kernel_rfl)) h1 hb (fun y hy=>by cases hy)) (Below.trod jix (by kernel_rfl) (of_decide_eq_true (by kernel_rfl)) h2 hb (fun y hy=>by cases hy));first|exact h|(simp only [List.append_nil,List.nil_append] at h;exact h)),rfl,hb.frame _,fun h=>by cases h⟩
theorem jAc (os:Os) (started:os.Started) (H:Type) (enc:TypeId×Value→H) (F:Stop.Interp):
  ReturnsInHanded {} Tryz.checked os 3 .any ((OpenSpec.ofChange Rows.topAiredSpec).preRow enc prog Tryz.f3 Rows.topAiredRow.domain false Rows.topAiredRow.laid) (((OpenSpec.ofChange Rows.topAiredSpec).at F).post enc prog Tryz.f3 false true false false):=by
 obtain ⟨places,hx⟩:=jAe os enc
 refine returnsInHanded_of_row (C:=Tryz.checked) (s:=OpenSpec.ofChange Rows.topAiredSpec) own started (by kernel_rfl) func3
  (witness_row_at (enc:=enc) (C:=Tryz.checked) false (World.laidAll prog os Rows.topAiredRow.laid) #[.slice none 0 0, .agg #[.string ⟨#[]⟩, .string ⟨#[]⟩], .string ⟨#[]⟩] (World.laidAll_os _ _ _) (by kernel_rfl) (by kernel_rfl) (by kernel_rfl)
    (OpenSpec.preRow_of_cond 8 hx (by kernel_rfl) (fun k hk=>by cases hk) (by kernel_rfl) (by rw [MakeChecks.laidMetH_plain _ _ _ (by kernel_rfl)];exact jAW os))) ?_
 intro W base args ds gs before hval hW _ _ _ hL hS _;exact jzB H enc W base args ds gs before hval hW hL hS
theorem jBw:(Rows.topAiredRow.inPlace==Tryz.pinned.checked.prog.inPlace 3)=true:=by kernel_rfl
theorem jBy:(Rows.topAiredRow.unfollowed==Tryz.pinned.checked.prog.unfollowed 3)=true:=by kernel_rfl
theorem jBM:(Rows.topAiredRow.recurses==Tryz.pinned.checked.prog.recurses 3)=true:=by kernel_rfl
theorem jBH:(Rows.topAiredRow.named==Tryz.pinned.checked.prog.varsNamed 3)=true:=by kernel_rfl
theorem jA6:joinedFacts Tryz.pinned.checked.prog 3 Tryz.f3 (OpenSpec.ofChange Rows.topAiredSpec).bare Rows.topAiredRow=true:=by
 unfold joinedFacts;rw [jBw,jBy,jBM,jBH]
 kernel_rfl
theorem jAR:Rows.TopAiredSaid:=
 OpenClaim.holds_of_cond 3 Tryz.f3 rfl rfl rfl rfl rfl rfl rfl ⟨rfl,rfl,rfl,rfl,rfl⟩ rfl rfl rfl rfl rfl (by kernel_rfl) func3 jA6
  (of_decide_eq_true (by kernel_rfl)) (by unfold Func.isWrapper;first|(rw [if_pos (by decide+kernel)];kernel_rfl)|(rw [if_neg (by decide+kernel)];exact ⟨rfl,rfl⟩))
  (fun os started H enc _ F=>by rw [OpenClaim.pre_eq_preRow];exact jAc os started H enc F)
theorem jAp (f : FuncId) (fn : Func) (hf : Tryz.pinned.checked.prog.funcNamed "bushel/busheltop.TopAired" = some f) (hfn : Tryz.pinned.checked.prog.funcs[f]? = some fn) :
  true=Tryz.pinned.checked.prog.looks []∧∀(j:Nat) t,fn.params[j]? =some t→Tryz.pinned.checked.prog.wantsStandIn t=false:=by
 obtain rfl : f = 3 := Option.some.inj ((show prog.funcNamed "bushel/busheltop.TopAired" = some 3 by kernel_rfl).symm.trans hf) |>.symm
 obtain rfl:fn=Tryz.f3:=(Option.some.inj (func3.symm.trans hfn)).symm;refine ⟨by kernel_rfl,fun j t ht=> ?_⟩;rw [params3] at ht;have hm:t∈ [22,25,23]:=by simpa using Array.mem_of_getElem? ht
 have hall:([22,25,23].all fun u=> !prog.wantsStandIn u)=true:=by kernel_rfl
 exact (show prog.wantsStandIn t=false by simpa using List.all_eq_true.1 hall t hm)
theorem aired_card:Rows.TopAiredCardSaid:=
 Claim7.holds_tied_plain_at .later [] _ _ _ _ jAR (fun _ h=>by cases h) (by kernel_rfl) (fun _ h=>by cases h) topAired_row_tie rfl ⟨rfl,rfl⟩ (by kernel_rfl) rfl jAp (by kernel_rfl)
#print axioms aired_card
end Go.Proofs.YtfagcpcikjlboaaGreatDoor
