/- Parts. -/
import Derived.Test.YteokfcjdfjhhhaaGreatDoorMt
import Derived.Test.YteokfcjdfjhhhaaGreatDoorOg
set_option linter.all false
set_option maxRecDepth 100000
set_option maxHeartbeats 8000000
namespace Go.Proofs.YteokfcjdfjhhhaaGreatDoor
open Go Go.RowKit

theorem jrC {x:Rat} {l:List UInt8} (h:tq x=l) (h1:(Go.Lib.decDigits x.num.natAbs).length≤600) (h2:(Go.Lib.decDigits x.den).length≤600):IsNum l x:=⟨h.symm,h1,h2⟩
theorem jhu {x:Rat} {l:List UInt8} (h:tq x=l∧(Go.Lib.decDigits x.num.natAbs).length≤600∧(Go.Lib.decDigits x.den).length≤600):IsNum l x:=jrC h.1 h.2.1 h.2.2
theorem jsW:IsNum [53,47,56] (5/8):=jhu (by decide+kernel)
theorem jsi:IsNum [45,53,47,56] (-5/8):=jhu (by decide+kernel)
theorem jsv:IsNum [49,47,52] (1/4):=jhu (by decide+kernel)
theorem jqY:IsNum [49,47,50] (1/2):=jhu (by decide+kernel)
theorem ex0:IsNum [48] 0:=jhu (by decide+kernel)
theorem ex1:IsNum [49] 1:=jhu (by decide+kernel)
theorem ex2:IsNum [50] 2:=jhu (by decide+kernel)
theorem jsr:IsNum [45,49] (-1):=jhu (by decide+kernel)
theorem ex3:IsNum [51] 3:=jhu (by decide+kernel)
theorem ex4:IsNum [52] 4:=jhu (by decide+kernel)
theorem ex5:IsNum [53] 5:=jhu (by decide+kernel)
theorem jst:IsNum [49,48] 10:=jhu (by decide+kernel)
theorem jsm:IsNum [49,49] 11:=jhu (by decide+kernel)
theorem jsn:IsNum [49,51] 13:=jhu (by decide+kernel)
theorem jsp:IsNum [49,53] 15:=jhu (by decide+kernel)
theorem jsP:IsNum [50,48] 20:=jhu (by decide+kernel)
theorem jt3:IsNum [51,54] 36:=jhu (by decide+kernel)
theorem jrp {x:Rat} (h1: -9223372036854775808 < x.num) (h2:x.num < 9223372036854775808) (h3:x.den < 9223372036854775808):StrQ x:=StrQ.small h1 h2 h3
theorem jnb {x:Rat} (h: -9223372036854775808 < x.num∧x.num < 9223372036854775808∧x.den < 9223372036854775808):StrQ x:=jrp h.1 h.2.1 h.2.2
theorem jsK:rnd [104,97,108,102,45,101,118,101,110] (5/8) (1/4)=1/2:=by decide+kernel
theorem jt0:rnd [104,97,108,102,45,117,112] (-5/8) (1/4)= -1/2:=by decide+kernel
theorem t12:jbC (1/2)=[49,47,50]∧jbq (1/2)=0:=by decide+kernel
theorem jsC:jbC (-1/2)=[45,49,47,50]∧jbq (-1/2)=0:=by decide+kernel
theorem s12:StrQ (1/2):=jnb (by decide+kernel)
theorem jsV:StrQ (-1/2):=jnb (by decide+kernel)
theorem jsa:jly ((1:Rat)*(-1)) [1*3,2*(-1),2*3]= -2:=by decide+kernel
theorem jsg:jmS ((1:Rat)*(-1)) [1*3,2*(-1),2*3]=6:=by decide+kernel
theorem js5:jqS (-2) 6=[45,50]∧jpL (-2) 6=[54]∧jqM (-2) 6=0:=by decide+kernel
theorem sm2:StrQ (-2):=jnb (by decide+kernel)
theorem s6:StrQ 6:=jnb (by decide+kernel)
theorem jri:jmX (jmZ [0,1,3] [2,4,5]) 3 3 0=some (0,2):=by decide+kernel
theorem js1:jcV [10,13] [2,1] 2 / ((3:Int):Rat)=11:=by decide+kernel
theorem js6:jcV [11,15] [2,1] 2 / ((3:Int):Rat)=37/3:=by decide+kernel
theorem jq5:jqS 11 (37/3)=[49,49]∧jpL 11 (37/3)=[51,55,47,51]∧jqM 11 (37/3)=0:=by decide+kernel
theorem s11:StrQ 11:=jnb (by decide+kernel)
theorem jsF:StrQ (37/3):=jnb (by decide+kernel)
theorem jsY:((1000:Int):Rat)*(100 - 20) / (100 - 36)=1250:=by decide+kernel
theorem jss:jbC 1250=[49,50,53,48]∧jbq 1250=0:=by decide+kernel
theorem jsb:StrQ 1250:=jnb (by decide+kernel)
theorem apZ:(List.range 3).map (App.out 7 4 (fun j=> [3,0,1].getD j 0) (apL 7 4 [3,0,1] 2) (App.left 7 4 (fun j=> [3,0,1].getD j 0) 3).toNat)=[5,0,2]:=by decide+kernel
theorem jig {a b:List UInt8} {x y:Rat} (ha:IsNum a x) (hb:IsNum b y) (h:x≤y):jbB (a,b)=0:=by
 have h1:=jaQ.2 ⟨x,ha⟩;have h2:=jaQ.2 ⟨y,hb⟩;have e:jab chk [a,b]=0:=by rw [jae h1,jae h2];rfl
 unfold jbB;dsimp only;rw [if_neg (by rw [e];simp),ha.numQ,hb.numQ,if_neg (Rat.not_lt.2 h)]
def exL:List Lay:=[⟨[119,104,101,97,116],600,[([97],[49])]⟩,⟨[119,104,101,97,116],400,[([97],[49,47,50]),([98],[49,47,50])]⟩]
theorem exC:jal exL=[([97],600),([97],200),([98],200)]:=by
 have h1:(1:Rat)*((600:Int):Rat)=600:=by decide+kernel
 have h2:(1/2:Rat)*((400:Int):Rat)=200:=by decide+kernel
 show jb1 600 [([97],[49])]++(jb1 400 [([97],[49,47,50]),([98],[49,47,50])]++[])=_
 unfold jb1;simp only [List.map_cons,List.map_nil,ex1.numQ,jqY.numQ,h1,h2];rfl
theorem jt1:jaw [([97],[49])]=0:=by
 have h1:chk [49]=0:=jaQ.2 ⟨_,ex1⟩;have h2:((0:Rat)+1=1):=by decide+kernel
 have h3:¬((1:Rat)≤0):=by decide+kernel
 have h4:jaZ [97]=true:=by decide+kernel
 unfold jaw;simp [jgL,h1,h2,h3,h4,ex1.numQ,jcZ]
theorem jsO:jaw [([97],[49,47,50]),([98],[49,47,50])]=0:=by
 have h1:chk [49,47,50]=0:=jaQ.2 ⟨_,jqY⟩;have h2:((0:Rat)+1/2+1/2=1):=by decide+kernel
 have h3:¬((1/2:Rat)≤0):=by decide+kernel
 have h4:jaZ [97]=true:=by decide+kernel
 have h5:jaZ [98]=true:=by decide+kernel
 have h6:jgk [98] [97]=false:=by decide+kernel
 unfold jaw;rw [if_neg (by simp),if_neg (by simp),jgL,if_neg (by rw [h4];simp),if_neg (by simp [jcZ]),if_neg (by simpa using h1),jqY.numQ,if_neg h3,jgL,if_neg (by rw [h5];simp),if_neg (by simp [jcZ,h6]),if_neg (by simpa using h1),jqY.numQ,if_neg h3,jgL,if_pos h2]
theorem exK:jab jaj exL=0:=by
 have h4:jaZ [119,104,101,97,116]=true:=by decide+kernel
 have e1:jaj ⟨[119,104,101,97,116],600,[([97],[49])]⟩=0:=by
  unfold jaj;dsimp only;rw [if_neg (by rw [h4];simp),if_neg (by omega),jt1]
 have e2:jaj ⟨[119,104,101,97,116],400,[([97],[49,47,50]),([98],[49,47,50])]⟩=0:=by
  unfold jaj;dsimp only;rw [if_neg (by rw [h4];simp),if_neg (by omega),jsO]
 unfold exL;rw [jae e1,jae e2];rfl
theorem exM:jgq (exL.getD 0 jaA).grain 0 exL=(1000,0):=by decide+kernel
theorem jsQ:∀x∈exL,LayIn x:=by
 intro x hx;simp only [exL,List.mem_cons,List.not_mem_nil,or_false] at hx;rcases hx with rfl|rfl
 ·exact ⟨⟨by decide,by decide⟩,by decide,by decide⟩
 ·exact ⟨⟨by decide,by decide⟩,by decide,by decide⟩
theorem jt2:∀x∈exL,∀p∈x.shares,Sz 1 (numQ p.2):=by
 have h1:Sz 1 (1:Rat):=⟨by rw [Nat.pow_one,ja7];decide+kernel,by rw [Nat.pow_one,ja7];decide+kernel⟩;have h2:Sz 1 (1/2:Rat):=⟨by rw [Nat.pow_one,ja7];decide+kernel,by rw [Nat.pow_one,ja7];decide+kernel⟩;intro x hx;simp only [exL,List.mem_cons,List.not_mem_nil,or_false] at hx;rcases hx with rfl|rfl
 ·intro p hp;simp only [List.mem_cons,List.not_mem_nil,or_false] at hp;subst hp;dsimp only;rw [ex1.numQ];exact h1
 ·intro p hp;simp only [List.mem_cons,List.not_mem_nil,or_false] at hp;rcases hp with rfl|rfl
  ·dsimp only;rw [jqY.numQ];exact h2
  ·dsimp only;rw [jqY.numQ];exact h2
def jn0:List (List UInt8):=[[97],[98]]
def jkp:List (List UInt8×List UInt8):=[([97],[52,47,53]),([98],[49,47,53])]
theorem exO:Ordered jn0:=⟨by decide,by decide⟩
theorem js8:∀x,x∈jn0↔jbF (jal exL) x=true:=by
 intro x;rw [exC];simp [jn0,jbF];constructor
 ·rintro (rfl|rfl) <;> simp
 ·rintro (rfl|rfl) <;> simp
theorem jsT:tot (jal exL) [97] / ((1000:Int):Rat)=4/5:=by rw [exC];decide+kernel
theorem jsU:tot (jal exL) [98] / ((1000:Int):Rat)=1/5:=by rw [exC];decide+kernel
theorem jrX:jbC (4/5)=[52,47,53]∧jbq (4/5)=0∧jbC (1/5)=[49,47,53]∧jbq (1/5)=0:=by decide+kernel
theorem jrP:∀j,j < jn0.length→(jkp.getD j ([],[])).1=jn0.getD j []∧StrQ (tot (jal exL) (jn0.getD j []) / ((1000:Int):Rat))∧jbC (tot (jal exL) (jn0.getD j []) / ((1000:Int):Rat))=(jkp.getD j ([],[])).2∧jbq (tot (jal exL) (jn0.getD j []) / ((1000:Int):Rat))=0:=by
 intro j hj;have h:j=0∨j=1:=by simp [jn0] at hj;omega
 rcases h with rfl|rfl
 ·refine ⟨rfl, ?_⟩;show StrQ (tot (jal exL) [97] / ((1000:Int):Rat))∧jbC (tot (jal exL) [97] / ((1000:Int):Rat))=[52,47,53]∧jbq (tot (jal exL) [97] / ((1000:Int):Rat))=0
  rw [jsT];exact ⟨jnb (by decide+kernel),jrX.1,jrX.2.1⟩
 ·refine ⟨rfl, ?_⟩;show StrQ (tot (jal exL) [98] / ((1000:Int):Rat))∧jbC (tot (jal exL) [98] / ((1000:Int):Rat))=[49,47,53]∧jbq (tot (jal exL) [98] / ((1000:Int):Rat))=0
  rw [jsU];exact ⟨jnb (by decide+kernel),jrX.2.2.1,jrX.2.2.2⟩

theorem jeh {W:World} {p:Nat} {t:TypeId} (ps:List (List UInt8×List UInt8)) (hp:W.heap.size=p):Pv (W.alloc (.cells (shs ps).toArray t)) (some ⟨p,0,none⟩) ps.length ps:=by
 subst hp;refine ⟨rfl,fun _=>⟨_,0,rfl,by simp,fun j hj=> ?_⟩⟩
 have h (k:Nat) (hk:k < 2):(W.alloc (.cells (shs ps).toArray t)).cell? ⟨W.heap.size,0+j*2+k,none⟩=(shs [ps.getD j ([],[])])[k]? :=by
  rw [←jjx ps j k hj hk];simp
 exact ⟨h 0 (by omega),h 1 (by omega)⟩
theorem jg8 {W:World} {p:Nat} {t:TypeId} (zs:List Int) (hz:∀z∈zs,R64 z) (hp:W.heap.size=p):Iv (W.alloc (.cells (jcU zs) t)) (some ⟨p,0,none⟩) zs.length zs:=by
 subst hp;refine ⟨rfl,hz,fun _=>⟨_,0,rfl,by simp,fun j hj=> ?_⟩⟩;have:=jbD hj;simpa using this
theorem jrw {W:World} {b:Nat} {t:TypeId} {zs:List Int} (hz:∀z∈zs,R64 z) (h:Blk W b t (jcU zs)):Iv W (some ⟨b,0,none⟩) zs.length zs:=by
 refine ⟨rfl,hz,fun _=>⟨_,0,rfl,h.lt,fun j hj=> ?_⟩⟩;have:=jbD hj;have e:W.heap[b]? =some (.cells (jcU zs) t (0,0)):=h;simp [World.cell?,e,this]
theorem jrE {W:World} {p:Nat} {A B:Option Addr} {c d:Nat} (hp:W.heap.size=p) (h1:Pv W A 1 [([97],[49])]) (h2:Pv W B 2 [([97],[49,47,50]),([98],[49,47,50])]):
  Lv (W.alloc (.cells #[bs [119,104,101,97,116], .int .i64 600, .slice A 1 c,bs [119,104,101,97,116], .int .i64 400, .slice B 2 d] 29)) (some ⟨p,0,none⟩) 2 exL:=by
 subst hp;refine ⟨rfl,fun _=>⟨_,0,rfl,by simp,fun j hj=> ?_⟩⟩;have hb:=ja4 (Below.refl W.heap.size W) (.cells #[bs [119,104,101,97,116], .int .i64 600, .slice A 1 c,bs [119,104,101,97,116], .int .i64 400, .slice B 2 d] 29);have h:j=0∨j=1:=by omega
 rcases h with rfl|rfl
 ·exact ⟨⟨A,c,by simp [exL],by simp [exL],by simp [exL],h1.below hb⟩⟩
 ·exact ⟨⟨B,d,by simp [exL],by simp [exL],by simp [exL],h2.below hb⟩⟩
theorem joF {W:World} {p:Nat} (hp:W.heap.size=p):SpIn (W.alloc (.cells #[bs [48],bs [50],bs [49],bs [52],bs [51],bs [53]] 52)) (some ⟨p,0,none⟩) 3 [([48],[50]),([49],[52]),([51],[53])] [0,1,3] [2,4,5]:=
 ⟨jeh [([48],[50]),([49],[52]),([51],[53])] hp,by omega,by omega,by decide,by rw [jae (jig ex0 ex2 (by decide+kernel)),jae (jig ex1 ex4 (by decide+kernel)),jae (jig ex3 ex5 (by decide+kernel))];rfl,rfl,rfl,fun j hj=>by
   have h:j=0∨j=1∨j=2:=by omega
   rcases h with rfl|rfl|rfl
   ·exact ⟨ex0,ex2,⟨by decide+kernel,by decide+kernel⟩,⟨by decide+kernel,by decide+kernel⟩⟩
   ·exact ⟨ex1,ex4,⟨by decide+kernel,by decide+kernel⟩,⟨by decide+kernel,by decide+kernel⟩⟩
   ·exact ⟨ex3,ex5,⟨by decide+kernel,by decide+kernel⟩,⟨by decide+kernel,by decide+kernel⟩⟩⟩
theorem jqH {W:World} {p:Nat} (hp:W.heap.size=p):SpIn (W.alloc (.cells #[bs [49,48],bs [49,49],bs [49,51],bs [49,53]] 52)) (some ⟨p,0,none⟩) 2 [([49,48],[49,49]),([49,51],[49,53])] [10,13] [11,15]:=
 ⟨jeh [([49,48],[49,49]),([49,51],[49,53])] hp,by omega,by omega,by decide,by rw [jae (jig jst jsm (by decide+kernel)),jae (jig jsn jsp (by decide+kernel))];rfl,rfl,rfl,fun j hj=>by
   have h:j=0∨j=1:=by omega
   rcases h with rfl|rfl
   ·exact ⟨jst,jsm,⟨by decide+kernel,by decide+kernel⟩,⟨by decide+kernel,by decide+kernel⟩⟩
   ·exact ⟨jsn,jsp,⟨by decide+kernel,by decide+kernel⟩,⟨by decide+kernel,by decide+kernel⟩⟩⟩
section
variable {w:World}
theorem jr7 (hE:Env w):Calls Tryz.prog 19 #[bs [53,47,56], .agg #[bs [104,97,108,102,45,101,118,101,110],bs [49,47,52]]] w fun e w'=>e= .returned (.tuple #[bs [49,47,50], .int .i64 0])∧Below w.heap.size w w':=
 jjc hE (by decide) (by decide) jsW (by decide+kernel) jsv (by decide+kernel) jsK s12 t12.1 t12.2
theorem jrD (hE:Env w):Calls Tryz.prog 19 #[bs [45,53,47,56], .agg #[bs [104,97,108,102,45,117,112],bs [49,47,52]]] w fun e w'=>e= .returned (.tuple #[bs [45,49,47,50], .int .i64 0])∧Below w.heap.size w w':=
 jjc hE (by decide) (by decide) jsi (by decide+kernel) jsv (by decide+kernel) jt0 jsV jsC.1 jsC.2
theorem jsJ (hE:Env w):Calls Tryz.prog 20 #[.agg #[bs [49],bs [50]], .agg #[bs [45,49],bs [51]]] w fun e w'=>e= .returned (.tuple #[.agg #[bs [45,50],bs [54]], .int .i64 0])∧Below w.heap.size w w':=
 jrh hE (by decide) (by decide) (by decide) (by decide) ex1 ex2 jsr ex3 (by rw [jae (jig ex1 ex2 (by decide+kernel)),jae (jig jsr ex3 (by decide+kernel))];rfl) jsa jsg sm2 s6 js5.1 js5.2.1 js5.2.2
theorem jsS (hE:Env w):Calls Tryz.prog 25 #[.int .i64 1000,bs [50,48],bs [51,54]] w fun e w'=>e= .returned (.tuple #[bs [49,50,53,48], .int .i64 0])∧Below w.heap.size w w':=
 jr6 hE ⟨jsP,by decide+kernel,by decide+kernel⟩ ⟨jt3,by decide+kernel,by decide+kernel⟩ (by omega) (by omega) jsY jsb jss.1 jss.2 (by decide) (by decide)
theorem ap1 {A:Option Addr} {c:Nat} (h:Iv w A 3 [3,0,1]):Calls Tryz.prog 23 #[.int .i64 7, .slice A 3 c] w fun e w'=>∃b,e= .returned (.tuple #[.slice (some ⟨b,0,none⟩) 3 3, .int .i64 0])∧Iv w' (some ⟨b,0,none⟩) 3 [5,0,2]∧Below w.heap.size w w':=by
 refine (jhB (m:=2) (s:=4) rfl (by omega) h (fun j=> ?_) (by decide+kernel) (by decide+kernel) (by omega) (by omega) (by omega)).mono ?_
 ·rcases j with _ | _ | _|j <;> simp
 ·rintro e w' ⟨b,rfl,h1,_,h2⟩
  rw [apZ] at h1;exact ⟨b,rfl,jrw (by intro z hz;simp at hz;rcases hz with rfl|rfl|rfl <;> exact ⟨by decide,by decide⟩) h1,h2⟩
theorem jsG {A:Option Addr} {c:Nat} (hE:Env w) (h:Lv w A 2 exL):Calls Tryz.prog 11 #[.slice A 2 c] w fun e w'=>∃B d,e= .returned (.tuple #[.agg #[bs [119,104,101,97,116], .int .i64 1000, .slice B 2 d], .int .i64 0])∧Pv w' B 2 jkp∧Below w.heap.size w w':=
 jpt (ks:=jn0) hE ⟨h,by omega,by omega,jsQ,(by omega:1≤18),jt2,exK,exM⟩ exO js8 (by decide) (by decide) rfl rfl jrP
end
end Go.Proofs.YteokfcjdfjhhhaaGreatDoor
