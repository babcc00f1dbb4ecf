/- Parts. -/
import Derived.Test.YtfagcpcikjlboaaGreatDoorTnG
set_option linter.all false
set_option maxRecDepth 100000
set_option maxHeartbeats 8000000
namespace Go.Proofs.YtfagcpcikjlboaaGreatDoor
open Go Go.RowKit Go.Maps Go.Sort Go.Proofs.Tryz

theorem jCu:IsNum [50,48] (20:Rat):=⟨by decide+kernel,by decide+kernel,by decide+kernel⟩
theorem jCv:IsNum [49,52] (14:Rat):=⟨by decide+kernel,by decide+kernel,by decide+kernel⟩
theorem jzE:IsNum [49,47,50] (mkRat 1 2):=⟨by decide+kernel,by decide+kernel,by decide+kernel⟩
abbrev jB8:Lay:=⟨[119,104,101,97,116],1000,[([97],[49,47,50]),([98],[49,47,50])]⟩
theorem jCo:jhc 1000 [50,48] [49,52]=0:=by
 have h1:chk [50,48]=0:=jjL.2 ⟨_,jCu⟩;have h2:chk [49,52]=0:=jjL.2 ⟨_,jCv⟩;unfold jhc jlB jbr mst;rw [h1,h2,jCu.numQ,jCv.numQ]
 decide+kernel
theorem jCr:jyR jB8=0:=by
 have h1:chk [49,47,50]=0:=jjL.2 ⟨_,jzE⟩;unfold jyR jyV;simp only [jBN,h1,jzE.numQ]
 decide+kernel
theorem jzp (m:Int):jyI [⟨[119,104,101,97,116],m,[([97],[49,47,50]),([98],[49,47,50])]⟩]=[([97],mkRat 1 2*(m:Rat)),([98],mkRat 1 2*(m:Rat))]:=by
 simp [jyI,jyP,jzE.numQ]
theorem jAt {x y:Rat}:tot [([97],x),([98],y)] [97]=x∧tot [([97],x),([98],y)] [98]=y:=by
 refine ⟨?_, ?_⟩ <;> simp [tot,Rat.add_zero,Rat.zero_add]
theorem jCc:Ordered [[97],[98]]:=⟨by decide,by decide⟩
theorem jBs {x:Rat} (h:x=mkRat 1 2):StrQ x∧jcF x=[49,47,50]∧jbq x=0:=by
 subst h;exact ⟨Dz.strQ (k:=2) ⟨by decide+kernel,by decide+kernel⟩ (by omega),by decide+kernel,by decide+kernel⟩
theorem jBV:Mixd [jB8] 1000 [[97],[98]] [([97],[49,47,50]),([98],[49,47,50])] [119,104,101,97,116] where
 ord:=jCc
 mem:=fun x=>by
  by_cases h:x=[97]
  ·subst h;rw [jzp];simp [jzj]
  ·have h':([97]==x)=false:=by rw [beq_eq_false_iff_ne];exact fun e=>h e.symm
   rw [jzp,jzj,List.any_cons,List.any_cons,List.any_nil,h',List.mem_cons,List.mem_singleton];simp only [h,false_or,Bool.false_or,Bool.or_false,beq_iff_eq];exact ⟨fun e=>e.symm,fun e=>e.symm⟩
 pos:=by decide
 few:=by decide
 grain:=rfl
 len:=rfl
 out:=fun j hj=>by
  rw [jzp];rcases (show j=0∨j=1 by simp at hj;omega) with rfl|rfl
  ·have:=jBs (x:=tot [([97],mkRat 1 2*((1000:Int):Rat)),([98],mkRat 1 2*((1000:Int):Rat))] [97] / ((1000:Int):Rat)) (by rw [jAt.1];decide+kernel);exact ⟨rfl,this.1,this.2.1,this.2.2⟩
  ·have:=jBs (x:=tot [([97],mkRat 1 2*((1000:Int):Rat)),([98],mkRat 1 2*((1000:Int):Rat))] [98] / ((1000:Int):Rat)) (by rw [jAt.2];decide+kernel);exact ⟨rfl,this.1,this.2.1,this.2.2⟩
theorem jBt {x:Rat} (h:x=mkRat 69 2):StrQ x∧je3 x=false∧tq x=[54,57,47,50]:=by
 subst h;exact ⟨Dz.strQ (k:=3) ⟨by decide+kernel,by decide+kernel⟩ (by omega),by decide+kernel,by decide+kernel⟩
theorem jCs:∀k∈ [[97],[98]],StrQ (tot (jyI [⟨[119,104,101,97,116],1000 - 931,[([97],[49,47,50]),([98],[49,47,50])]⟩]) k)∧je3 (tot (jyI [⟨[119,104,101,97,116],1000 - 931,[([97],[49,47,50]),([98],[49,47,50])]⟩]) k)=false∧tq (tot (jyI [⟨[119,104,101,97,116],1000 - 931,[([97],[49,47,50]),([98],[49,47,50])]⟩]) k)=(fun _=> [54,57,47,50]) k:=by
 intro k hk;rw [jzp];rcases (show k=[97]∨k=[98] by simpa using hk) with rfl|rfl
 ·rw [jAt.1];exact jBt (by decide+kernel)
 ·rw [jAt.2];exact jBt (by decide+kernel)
section
variable {w:World} {B:Option Addr} {d:Nat}
theorem jCx (hv:Lv w (some ⟨d,0,none⟩) 1 [jB8]):MixIn w (some ⟨d,0,none⟩) 1 [jB8] 1000 1 where
 view:=hv
 pos:=by decide
 le:=by decide
 lay:=fun x hx=>by
  rw [List.mem_singleton.1 hx];exact ⟨by unfold R64;decide,by decide,fun p hp=>by rcases (show p=([97],[49,47,50])∨p=([98],[49,47,50]) by simpa using hp) with rfl|rfl <;> decide⟩
 qle:=by decide
 sz:=fun x hx p hp=>by
  rw [List.mem_singleton.1 hx] at hp
  have e:numQ p.2=mkRat 1 2:=by
   rcases (show p=([97],[49,47,50])∨p=([98],[49,47,50]) by simpa using hp) with rfl|rfl <;> exact jzE.numQ
  rw [e];exact ⟨by decide+kernel,by decide+kernel⟩
 chk:=by simp only [jar,jCr];rfl
 mix:=by decide+kernel
theorem jAH (a b c d:List UInt8) (T:TypeId):Pv (w.alloc (.cells #[bs a,bs b,bs c,bs d] T)) (some ⟨w.heap.size,0,none⟩) 2 [(a,b),(c,d)]:=by
 refine ⟨rfl,fun _=>⟨w.heap.size,0,rfl,by simp,fun j hj=> ?_⟩⟩;rcases (show j=0∨j=1 by omega) with rfl|rfl <;> exact ⟨by simp,by simp⟩
theorem jzW (hE:Env w):Calls prog 5 #[] w fun e w'=>e= .returned (.bool true)∧Below w.heap.size w w':=by
 have HD:=qh (fun W (hb:Below w.heap.size w W)=>jtk (hE.below hb) (a:=[50,48]) (b:=[49,52]) (N:=931) (rn:=931) (by decide) (by decide) jCo (by rw [jCu.numQ,jCv.numQ];exact ⟨by decide+kernel,by decide,by decide,by decide+kernel,by decide+kernel⟩) (z:=mkRat 13100 931) (by rw [jCu.numQ];decide+kernel) (Dz.strQ (k:=6) ⟨by decide+kernel,by decide+kernel⟩ (by omega)) (tz:=[49,51,49,48,48,47,57,51,49]) (by decide+kernel) (ez:=0) (by decide+kernel) rfl)
 have HS:=qh (fun W c d (hb:Below w.heap.size w W) (hv:Lv W (some ⟨d,0,none⟩) 1 [jB8])=>jA3 (c:=c) (hE.below hb) (jCx hv) jBV (left:=931) (by decide) (by decide) (by decide) (fun p hp=>by
  have e:numQ p.2=mkRat 1 2∧IsNum p.2 (mkRat 1 2)∧p.1.length≤1:=by
   rcases (show p=([97],[49,47,50])∨p=([98],[49,47,50]) by simpa using hp) with rfl|rfl <;> exact ⟨jzE.numQ,jzE,by decide⟩
  rw [e.1]
  exact ⟨e.2.1,by have:=e.2.2;unfold maxLen;omega,by decide+kernel,by decide+kernel⟩) jCs)
 clear hE;go_enter func5,ntmps5;go_upto_region 2 with (fail)
 have HV:=qh (jB9 (g0:=[119,104,101,97,116]) (m:=1000) (d:=2) (jAH (w:=w) [97] [49,47,50] [98] [49,47,50] 49) 52);rw [World.size_alloc] at HV
 go_wp2_with (first
  | (go_at_call 18;(with_reducible refine mo0 (HD.o _ bi) fun w1 hb1 hc1 hf1 _=> ?_))
  | (go_at_call 19;(with_reducible refine (HS.o _ _ _ bi (HV.o.below bi)).mono ?_);rintro e2 w2 ⟨B2,d2,C2,f2,rfl,hpB,hpC,hb2⟩;obtain ⟨hc2,hf2,_⟩:=bc0 hb2;obtain ⟨bc,oc,rfl,hbc,hcc⟩:=hpC.at_ (by decide);have k0:=(hcc 0 (by decide)).2;rw [Nat.zero_mul,Nat.add_zero] at k0;dsimp only [amL,List.map_cons,List.map_nil,List.getD_cons_zero] at k0;clear hcc hpC hpB))
 go_ret;exact ⟨by simp,bi⟩
end
end Go.Proofs.YtfagcpcikjlboaaGreatDoor
