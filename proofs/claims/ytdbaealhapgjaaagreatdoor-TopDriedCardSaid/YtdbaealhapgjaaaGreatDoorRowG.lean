/- Parts. -/
import Derived.Test.YtdbaealhapgjaaaGreatDoorRows
import Derived.Test.YtdbaealhapgjaaaGreatDoorCards
import Derived.Test.YtdbaealhapgjaaaGreatDoorTie
import Derived.Test.YtdbaealhapgjaaaGreatDoorTz
import Derived.ProofKit
import Derived.OpenShut
import Derived.Carry
import Derived.Deep.DeepHandedRow
import Derived.Lib.LaidTab
import Derived.Stop.LaidErr
import Derived.Lay
import Derived.MakeChecks
import Derived.Shelf.Vars
import Derived.ChangeMaps5
import Derived.ChangeSame
import Derived.Deep.SlicePairs
set_option linter.all false
set_option maxRecDepth 100000
set_option maxHeartbeats 8000000
namespace Go.Proofs.YtdbaealhapgjaaaGreatDoor
open Go Go.ChangeShapes Go.WideShapes Go.ChangeAt Go.RowKit Go.Proofs.Tryz

theorem own:ownKnob prog.godebug=none:=by kernel_rfl
theorem jix:laidOutB prog=true:=by kernel_rfl
theorem jw6 : prog.globalNamed "internal/strconv.uint64pow10" = some 5 := by kernel_rfl
theorem jpM:(prog.globals[5]?).map (·.type)=some 287:=by kernel_rfl
theorem jq2:prog.cellsOf 287=20:=by kernel_rfl
theorem joE:prog.cellsOf 198=1:=by kernel_rfl
theorem laidMetH.plain {l:List (String×DataW Unit)} {W:World} (h:laidMetH prog l W) (hp:(l.all fun x=>x.2.handleName?.isNone)=true):laidMet prog l W:=by
 rw [MakeChecks.laidMetH_plain _ _ _ hp] at h;exact h
theorem jtM {W : World} {l : List (String × DataW Unit)} (h : laidMet prog (("internal/strconv.uint64pow10", Rows.laid_internal_strconv_uint64pow10) :: l) W) (hs : W.ShapedOpen prog) : Env W := by
 obtain ⟨m,hm⟩:=Go.Proofs.cell_of_shapedOpen_int (g:=0) (zero:= #[.int .i64 0]) (t:=3) hs (of_decide_eq_true (by kernel_rfl)) (by kernel_rfl) rfl (by kernel_rfl) (by kernel_rfl) underlying3;exact ⟨Lib.tabBelow_of_tabIs (Lib.tabIs_of_head (zs:=Lib.pow10Tab) jw6 jpM underlying287 underlying198 joE jq2 h),⟨m,hm⟩,World.block_lt_of_cell? W ⟨0,0,none⟩ hm⟩
end Go.Proofs.YtdbaealhapgjaaaGreatDoor
namespace Go.Proofs.YtdbaealhapgjaaaGreatDoor
open Go Go.ChangeShapes Go.WideShapes Go.ChangeAt Go.RowKit Go.ChangeMaps Go.Proofs.Tryz

theorem jmJ {H:Type} {enc:TypeId×Value→H} {W:World} {sp:Nat→Bool} {held:Bool} {r:Reach} {b0 base:Nat} {t:TypeId} {v:Value} {d:DataW H} {ps:List MemPlace} (ht:prog.underlying t=some .string) (hval:Value.okWide prog W r b0 t v) (hd:DataW.Trod enc prog W base sp held t v d ps):
  ∃a:List UInt8,v=bs a∧ps=[]:=by
 obtain ⟨s,rfl,_,rfl,_⟩:=open_string ht hval hd;exact ⟨s.data.toList,rfl,rfl⟩

section
variable {H:Type} {enc:TypeId×Value→H} {W:World}
theorem jCP {v:Value} {fuel:Nat} {x:DataW H×List MemPlace} (h:DataW.trod enc prog W 0 (fun _=>true) true fuel 35 [v]=some x):∃A n c ls,v= .slice A n c∧Pv W A n ls:=by
 rcases Go.Deep.open_slice_pairs underlying35 underlying75 (by kernel_rfl) rfl rfl (by kernel_rfl) (by kernel_rfl) h with ⟨hcs,_⟩|⟨a,len,cap,m,fu,V0,V1,D0,D1,P0,P1,hcs,_,hl,hm,hz,_,hcell⟩
 ·simp at hcs;subst hcs;exact ⟨none,0,0,[],rfl,rfl,fun h=>by omega⟩
 ·simp at hcs;subst hcs;simp only [if_true] at hz;obtain ⟨b,off,spot⟩:=a
  have s0:∀i,i < m→∃s:ByteArray,V0 i= .string s:=fun i hi=>by
   obtain ⟨s,h1,_,_⟩:=DataW.trod_string underlying9 (hcell i hi).2.2.1;exact ⟨s,by simpa using h1⟩
  have s1:∀i,i < m→∃s:ByteArray,V1 i= .string s:=fun i hi=>by
   obtain ⟨s,h1,_,_⟩:=DataW.trod_string underlying23 (hcell i hi).2.2.2;exact ⟨s,by simpa using h1⟩
  let txt:Value→List UInt8:=fun v=>match v with | .string s=>s.data.toList | _=> []
  refine ⟨some ⟨b,off,spot⟩,len,cap,(List.range len).map fun i=>(txt (V0 i),txt (V1 i)),rfl,by simp,fun h0=> ?_⟩;have hspot:spot=none:=by simpa [Addr.add] using World.cell?_spot (hcell 0 (by omega)).1
  subst hspot;refine ⟨b,off,rfl,World.block_lt_of_cell? W _ (hcell 0 (by omega)).1,fun j hj=> ?_⟩;have hj':j < m:=by omega
  obtain ⟨c0,c1,_,_⟩:=hcell j hj';obtain ⟨t0,e0⟩:=s0 j hj';obtain ⟨t1,e1⟩:=s1 j hj';rw [add_plain,e0] at c0;rw [add_plain,e1] at c1;rw [List.getD_eq_getElem?_getD,List.getElem?_map,List.getElem?_range hj,Option.map_some,Option.getD_some,c0,e0,e1];rw [←Nat.add_assoc] at c1;rw [c1];exact ⟨rfl,rfl⟩
theorem jCM {A:Option Addr} {n c fuel:Nat} {x:DataW H×List MemPlace} (h:DataW.trod enc prog W 0 (fun _=>true) true fuel 22 [.slice A n c]=some x):∃ls,Lv W A n ls∧∀y∈ls,R64 y.mass:=by
 rcases Go.Deep.open_slice underlying22 h with ⟨hcs,_⟩|⟨a,len,cap,m,fu,D,Pl,hcs,_,hl,hm,hz,_,hx⟩
 ·simp at hcs;obtain ⟨rfl,rfl,rfl⟩:=hcs;exact ⟨[],⟨rfl,fun h=>by omega⟩,fun y hy=>by simp at hy⟩
 ·simp at hcs;obtain ⟨rfl,rfl,rfl⟩:=hcs;simp only [if_true] at hz;obtain ⟨b,off,spot⟩:=a;have hc:prog.cellsOf 37=3:=by kernel_rfl
  have hs:prog.cellsOf 9=1:=by kernel_rfl
  have hi:prog.cellsOf 3=1:=by kernel_rfl
  have hw:prog.cellsOf 35=1:=by kernel_rfl
  obtain ⟨f0,f1,f2,hu,ht0,ht1,ht2,ho0,ho1,ho2⟩:∃f0 f1 f2:Field,prog.underlying 37=some (.struct #[f0,f1,f2])∧f0.type=9∧f1.type=3∧f2.type=35∧f0.offset=0∧f1.offset=1∧f2.offset=2:=⟨_,_,_,underlying37,rfl,rfl,rfl,rfl,rfl,rfl⟩;rcases Nat.eq_zero_or_pos n with h0|h0
  ·subst h0;exact ⟨[],⟨rfl,fun h=>by omega⟩,fun y hy=>by simp at hy⟩
  have hspot:spot=none:=by
   obtain ⟨cs',h1,_⟩:=hx 0 (by omega);rw [hc] at h1;obtain ⟨_,hlen,hcell⟩:=World.cells?_some h1
   match cs',hlen with
   | [v0,v1,v2],_=>
     have e0:=hcell 0 (by omega);simpa [Addr.add] using World.cell?_spot e0
  subst hspot
  have each:∀i,i < n→∃y:Lay,R64 y.mass∧b < W.heap.size∧LyAt W b (off+i*3) y:=by
   intro i hin;obtain ⟨cs',h1,h2⟩:=hx i (by omega);rw [hc] at h1;obtain ⟨_,hlen,hcell⟩:=World.cells?_some h1
   obtain ⟨xs,k,hk,hxy,_,hxl,hf⟩:=DataW.trod_struct hu h2
   match xs,hxl,cs',hlen with
   | [y0,y1,y2],_,[v0,v1,v2],_=>
     have g0:=hf 0 f0 rfl;have g1:=hf 1 f1 rfl;have g2:=hf 2 f2 rfl;rw [ht0,hs,ho0] at g0;rw [ht1,hi,ho1] at g1;rw [ht2,hw,ho2] at g2;obtain ⟨s,k0,_,_⟩:=DataW.trod_string underlying9 g0;obtain ⟨z,k1,_,w1⟩:=DataW.trod_int underlying3 g1;simp at k0 k1;subst k0 k1;obtain ⟨B,l,d,ps,k2,hv⟩:=jCP (by simpa using g2);subst k2;have e0:=hcell 0 (by omega);have e1:=hcell 1 (by omega);have e2:=hcell 2 (by omega);rw [Go.Deep.add_add] at e0 e1 e2;rw [add_plain] at e0 e1 e2;simp only [Nat.add_zero] at e0;have hl2:=hv.len;subst hl2;rw [←Nat.add_assoc] at e1 e2;refine ⟨⟨s.data.toList,z,ps⟩, ?_,World.block_lt_of_cell? W _ e0,⟨B,d,by simpa using e0,by simpa using e1,by simpa using e2,hv⟩⟩;simp [Lit.wf,IntKind.min,IntKind.max,IntKind.signed,IntKind.bits] at w1;unfold R64;dsimp only;omega
  have:Inhabited Lay:=⟨jyL⟩;obtain ⟨f,hf⟩:=Go.Deep.choose_lt each;refine ⟨(List.range n).map f,⟨by simp,fun _=> ?_⟩,fun y hy=> ?_⟩
  ·obtain ⟨_,hb,_⟩:=hf 0 h0;refine ⟨b,off,rfl,hb,fun j hj=> ?_⟩;rw [List.getD_eq_getElem?_getD,List.getElem?_map,List.getElem?_range hj];exact (hf j hj).2.2
  ·obtain ⟨i,hi',rfl⟩:=List.mem_map.1 hy;exact (hf i (List.mem_range.1 hi')).1
end
end Go.Proofs.YtdbaealhapgjaaaGreatDoor
namespace Go.Proofs.YtdbaealhapgjaaaGreatDoor
open Go Go.ChangeShapes Go.WideShapes Go.ChangeAt Go.RowKit Go.Proofs.Tryz

theorem jDi (os:Os):laidMet prog Rows.topDriedRow.laid ((World.laidAll prog os Rows.topDriedRow.laid).forCall (fun _ _=>0) ⟨#[], #[.slice none 0 0, .string ⟨#[]⟩, .string ⟨#[]⟩],[]⟩).memory:=
 laidMet_laidAll _ (by kernel_rfl) (by kernel_rfl)
theorem jCS (os:Os) {H:Type} (enc:TypeId×Value→H):∃places,DataW.whole enc prog ((World.laidAll prog os Rows.topDriedRow.laid).forCall (fun _ _=>0) ⟨#[], #[.slice none 0 0, .string ⟨#[]⟩, .string ⟨#[]⟩],[]⟩).memory Tryz.f3.params.toList Rows.topDriedSpec.vars false #[Value.slice none 0 0, .string ⟨#[]⟩, .string ⟨#[]⟩].toList 8=some ([.nil, .lit (.string []), .lit (.string [])],[],places):=
 ⟨[],by kernel_rfl⟩
theorem jCw (H:Type) (enc:TypeId×Value→H) (W:World) (base:Nat) (args:Array Value) (ds gs:List (DataW H)) (before:List MemPlace)
  (hval:∀(j:Nat) t v,Tryz.f3.params[j]? =some t→args[j]? =some v→Value.okWide prog W .any base t v)
  (hW:DataW.Whole enc prog Tryz.f3.params.toList Rows.topDriedSpec.vars false W args.toList ds gs before) (hL:laidMetH prog Rows.topDriedRow.laid W) (hS:W.ShapedOpen prog):
  Calls prog 3 args W fun e W'=>∃v,e= .returned v∧Rows.topDriedSpec.post enc prog Tryz.f3 false true false false W args v W':=by
 have hE:Env W:=jtM (laidMetH.plain hL (by kernel_rfl)).tail.tail hS;have hW':=hW;obtain ⟨p,q,hA0,hV,rfl,hfz,hnd⟩:=hW;have hA:DataW.TrodAll enc prog W 0 (fun _=>true) true Tryz.f3.params.toList args.toList ds p:=hA0;rw [params3] at hA hval;obtain ⟨v0,v1,v2,d0,d1,d2,p0,p1,p2,rfl,rfl,rfl,h0,h1,h2⟩:=trodAll_three hA;obtain ⟨rfl,rfl⟩:=trodVars_none hV;obtain ⟨A0,n0,c0,rfl⟩:=okWide_slice underlying22 (hval 0 22 v0 rfl rfl);have h0k:=h0;obtain ⟨fuel0,hf0⟩:=h0;obtain ⟨a1,rfl,rfl⟩:=jmJ underlying23 (hval 1 23 v1 rfl rfl) h1;obtain ⟨a2,rfl,rfl⟩:=jmJ underlying23 (hval 2 23 v2 rfl rfl) h2;simp only [List.append_nil,List.nil_append] at hW';have hlt0:∀y∈p0,y.block < W.heap.size:=fun y hy=>by simpa using hW'.lt y (by simp [hy])
 obtain ⟨ls0,hv0,hr0⟩:=jCM hf0;have walk:Calls prog 3 #[.slice A0 n0 c0,bs a1,bs a2] W fun e w'=>e= .returned (.bool true)∧Below W.heap.size W w':=jDa hE hv0  
 refine walk.mono fun e W' ⟨he,hb⟩=> ?_
 subst he;exact ⟨_,rfl,_,_,_,[],p0,[],hW',trodAll_mk1 (shut_bool underlying4 _),(by have h:=trodAll_mk3 (p:=p0) (p':=[]) (p'':=[]) (Below.trod jix (by kernel_rfl) (of_decide_eq_true (by kernel_rfl)) h0k hb hlt0) (Below.trod jix (by kernel_rfl) (of_decide_eq_true (by kernel_rfl)) h1 hb (fun y hy=>by cases hy)) (Below.trod jix (by kernel_rfl) (of_decide_eq_true (by kernel_rfl)) h2 hb (fun y hy=>by cases hy));first|exact h|(simp only [List.append_nil,List.nil_append] at h;exact h)),rfl,hb.frame _,fun h=>by cases h⟩
theorem jCG (os:Os) (started:os.Started) (H:Type) (enc:TypeId×Value→H) (F:Stop.Interp):
  ReturnsInHanded {} Tryz.checked os 3 .any ((OpenSpec.ofChange Rows.topDriedSpec).preRow enc prog Tryz.f3 Rows.topDriedRow.domain false Rows.topDriedRow.laid) (((OpenSpec.ofChange Rows.topDriedSpec).at F).post enc prog Tryz.f3 false true false false):=by
 obtain ⟨places,hx⟩:=jCS os enc
 refine returnsInHanded_of_row (C:=Tryz.checked) (s:=OpenSpec.ofChange Rows.topDriedSpec) own started (by kernel_rfl) func3
  (witness_row_at (enc:=enc) (C:=Tryz.checked) false (World.laidAll prog os Rows.topDriedRow.laid) #[.slice none 0 0, .string ⟨#[]⟩, .string ⟨#[]⟩] (World.laidAll_os _ _ _) (by kernel_rfl) (by kernel_rfl) (by kernel_rfl)
    (OpenSpec.preRow_of_cond 8 hx (by kernel_rfl) (fun k hk=>by cases hk) (by kernel_rfl) (by rw [MakeChecks.laidMetH_plain _ _ _ (by kernel_rfl)];exact jDi os))) ?_
 intro W base args ds gs before hval hW _ _ _ hL hS _;exact jCw H enc W base args ds gs before hval hW hL hS
theorem jDq:(Rows.topDriedRow.inPlace==Tryz.pinned.checked.prog.inPlace 3)=true:=by kernel_rfl
theorem jDm:(Rows.topDriedRow.unfollowed==Tryz.pinned.checked.prog.unfollowed 3)=true:=by kernel_rfl
theorem jDl:(Rows.topDriedRow.recurses==Tryz.pinned.checked.prog.recurses 3)=true:=by kernel_rfl
theorem jDp:(Rows.topDriedRow.named==Tryz.pinned.checked.prog.varsNamed 3)=true:=by kernel_rfl
theorem jCJ:joinedFacts Tryz.pinned.checked.prog 3 Tryz.f3 (OpenSpec.ofChange Rows.topDriedSpec).bare Rows.topDriedRow=true:=by
 unfold joinedFacts;rw [jDq,jDm,jDl,jDp]
 kernel_rfl
theorem jD4:Rows.TopDriedSaid:=
 OpenClaim.holds_of_cond 3 Tryz.f3 rfl rfl rfl rfl rfl rfl rfl ⟨rfl,rfl,rfl,rfl,rfl⟩ rfl rfl rfl rfl rfl (by kernel_rfl) func3 jCJ
  (of_decide_eq_true (by kernel_rfl)) (by unfold Func.isWrapper;first|(rw [if_pos (by decide+kernel)];kernel_rfl)|(rw [if_neg (by decide+kernel)];exact ⟨rfl,rfl⟩))
  (fun os started H enc _ F=>by rw [OpenClaim.pre_eq_preRow];exact jCG os started H enc F)
theorem jCO (f : FuncId) (fn : Func) (hf : Tryz.pinned.checked.prog.funcNamed "bushel/busheltop.TopDried" = some f) (hfn : Tryz.pinned.checked.prog.funcs[f]? = some fn) :
  true=Tryz.pinned.checked.prog.looks []∧∀(j:Nat) t,fn.params[j]? =some t→Tryz.pinned.checked.prog.wantsStandIn t=false:=by
 obtain rfl : f = 3 := Option.some.inj ((show prog.funcNamed "bushel/busheltop.TopDried" = some 3 by kernel_rfl).symm.trans hf) |>.symm
 obtain rfl:fn=Tryz.f3:=(Option.some.inj (func3.symm.trans hfn)).symm;refine ⟨by kernel_rfl,fun j t ht=> ?_⟩;rw [params3] at ht;have hm:t∈ [22,23,23]:=by simpa using Array.mem_of_getElem? ht
 have hall:([22,23,23].all fun u=> !prog.wantsStandIn u)=true:=by kernel_rfl
 exact (show prog.wantsStandIn t=false by simpa using List.all_eq_true.1 hall t hm)
theorem dried_card:Rows.TopDriedCardSaid:=
 Claim7.holds_tied_plain_at .later [] _ _ _ _ jD4 (fun _ h=>by cases h) (by kernel_rfl) (fun _ h=>by cases h) topDried_row_tie rfl ⟨rfl,rfl⟩ (by kernel_rfl) rfl jCO (by kernel_rfl)
#print axioms dried_card
end Go.Proofs.YtdbaealhapgjaaaGreatDoor
