/- Parts. -/
import Derived.Test.YtomkgioebbefnaaGreatDoorMt
import Derived.Test.YtomkgioebbefnaaGreatDoorOg
set_option linter.all false
set_option maxRecDepth 100000
set_option maxHeartbeats 8000000
namespace Go.Proofs.YtomkgioebbefnaaGreatDoor
open Go Go.RowKit

theorem jqQ {x:Rat} {l:List UInt8} (h:tq x=l) (h1:(Go.Lib.decDigits x.num.natAbs).length≤600) (h2:(Go.Lib.decDigits x.den).length≤600):IsNum l x:=⟨h.symm,h1,h2⟩
theorem jgT {x:Rat} {l:List UInt8} (h:tq x=l∧(Go.Lib.decDigits x.num.natAbs).length≤600∧(Go.Lib.decDigits x.den).length≤600):IsNum l x:=jqQ h.1 h.2.1 h.2.2
theorem jrO:IsNum [53,47,56] (5/8):=jgT (by decide+kernel)
theorem jr8:IsNum [45,53,47,56] (-5/8):=jgT (by decide+kernel)
theorem jrD:IsNum [49,47,52] (1/4):=jgT (by decide+kernel)
theorem jpZ:IsNum [49,47,50] (1/2):=jgT (by decide+kernel)
theorem ex0:IsNum [48] 0:=jgT (by decide+kernel)
theorem ex1:IsNum [49] 1:=jgT (by decide+kernel)
theorem ex2:IsNum [50] 2:=jgT (by decide+kernel)
theorem jrq:IsNum [45,49] (-1):=jgT (by decide+kernel)
theorem ex3:IsNum [51] 3:=jgT (by decide+kernel)
theorem ex4:IsNum [52] 4:=jgT (by decide+kernel)
theorem ex5:IsNum [53] 5:=jgT (by decide+kernel)
theorem jrB:IsNum [49,48] 10:=jgT (by decide+kernel)
theorem jrt:IsNum [49,49] 11:=jgT (by decide+kernel)
theorem jrE:IsNum [49,51] 13:=jgT (by decide+kernel)
theorem jru:IsNum [49,53] 15:=jgT (by decide+kernel)
theorem jrS:IsNum [50,48] 20:=jgT (by decide+kernel)
theorem jrJ:IsNum [51,54] 36:=jgT (by decide+kernel)
theorem jql {x:Rat} (h1: -9223372036854775808 < x.num) (h2:x.num < 9223372036854775808) (h3:x.den < 9223372036854775808):StrQ x:=StrQ.small h1 h2 h3
theorem jnH {x:Rat} (h: -9223372036854775808 < x.num∧x.num < 9223372036854775808∧x.den < 9223372036854775808):StrQ x:=jql h.1 h.2.1 h.2.2
theorem jrM:rnd [104,97,108,102,45,101,118,101,110] (5/8) (1/4)=1/2:=by decide+kernel
theorem jrQ:rnd [104,97,108,102,45,117,112] (-5/8) (1/4)= -1/2:=by decide+kernel
theorem t12:jbE (1/2)=[49,47,50]∧jbF (1/2)=0:=by decide+kernel
theorem jrz:jbE (-1/2)=[45,49,47,50]∧jbF (-1/2)=0:=by decide+kernel
theorem s12:StrQ (1/2):=jnH (by decide+kernel)
theorem jrL:StrQ (-1/2):=jnH (by decide+kernel)
theorem jro:jeV ((1:Rat)*(-1)) [1*3,2*(-1),2*3]= -2:=by decide+kernel
theorem jr7:jeW ((1:Rat)*(-1)) [1*3,2*(-1),2*3]=6:=by decide+kernel
theorem jre:jk9 (-2) 6=[45,50]∧jkE (-2) 6=[54]∧jm7 (-2) 6=0:=by decide+kernel
theorem sm2:StrQ (-2):=jnH (by decide+kernel)
theorem s6:StrQ 6:=jnH (by decide+kernel)
theorem jqj:jll (jmf [0,1,3] [2,4,5]) 3 3 0=some (0,2):=by decide+kernel
theorem jr4:jaw [10,13] [2,1] 2 / ((3:Int):Rat)=11:=by decide+kernel
theorem jrf:jaw [11,15] [2,1] 2 / ((3:Int):Rat)=37/3:=by decide+kernel
theorem jp0:jk9 11 (37/3)=[49,49]∧jkE 11 (37/3)=[51,55,47,51]∧jm7 11 (37/3)=0:=by decide+kernel
theorem s11:StrQ 11:=jnH (by decide+kernel)
theorem jrR:StrQ (37/3):=jnH (by decide+kernel)
theorem js4:((1000:Int):Rat)*(100 - 20) / (100 - 36)=1250:=by decide+kernel
theorem jry:jbE 1250=[49,50,53,48]∧jbF 1250=0:=by decide+kernel
theorem jrk:StrQ 1250:=jnH (by decide+kernel)
theorem apZ:(List.range 3).map (App.out 7 4 (fun j=> [3,0,1].getD j 0) (apL 7 4 [3,0,1] 2) (App.left 7 4 (fun j=> [3,0,1].getD j 0) 3).toNat)=[5,0,2]:=by decide+kernel
theorem jhZ {a b:List UInt8} {x y:Rat} (ha:IsNum a x) (hb:IsNum b y) (h:x≤y):jaZ (a,b)=0:=by
 have h1:=jau.2 ⟨x,ha⟩
 have h2:=jau.2 ⟨y,hb⟩
 have e:jac chk [a,b]=0:=by rw [jad h1,jad h2];rfl
 unfold jaZ
 dsimp only
 rw [if_neg (by rw [e];simp),ha.numQ,hb.numQ,if_neg (Rat.not_lt.2 h)]
def exL:List Lay:=[⟨[119,104,101,97,116],600,[([97],[49])]⟩,⟨[119,104,101,97,116],400,[([97],[49,47,50]),([98],[49,47,50])]⟩]
theorem exC:jaM exL=[([97],600),([97],200),([98],200)]:=by
 have h1:(1:Rat)*((600:Int):Rat)=600:=by decide+kernel
 have h2:(1/2:Rat)*((400:Int):Rat)=200:=by decide+kernel
 show jbl 600 [([97],[49])]++(jbl 400 [([97],[49,47,50]),([98],[49,47,50])]++[])=_
 unfold jbl
 simp only [List.map_cons,List.map_nil,ex1.numQ,jpZ.numQ,h1,h2]
 rfl
theorem jrN:jb1 [([97],[49])]=0:=by
 have h1:chk [49]=0:=jau.2 ⟨_,ex1⟩
 have h2:((0:Rat)+1=1):=by decide+kernel
 have h3:¬((1:Rat)≤0):=by decide+kernel
 have h4:jb9 [97]=true:=by decide+kernel
 unfold jb1
 simp [jk4,h1,h2,h3,h4,ex1.numQ,jfb]
theorem jrP:jb1 [([97],[49,47,50]),([98],[49,47,50])]=0:=by
 have h1:chk [49,47,50]=0:=jau.2 ⟨_,jpZ⟩
 have h2:((0:Rat)+1/2+1/2=1):=by decide+kernel
 have h3:¬((1/2:Rat)≤0):=by decide+kernel
 have h4:jb9 [97]=true:=by decide+kernel
 have h5:jb9 [98]=true:=by decide+kernel
 have h6:jjI [98] [97]=false:=by decide+kernel
 unfold jb1
 rw [if_neg (by simp),if_neg (by simp),jk4,if_neg (by rw [h4];simp),if_neg (by simp [jfb]),if_neg (by simpa using h1),jpZ.numQ,if_neg h3,jk4,if_neg (by rw [h5];simp),if_neg (by simp [jfb,h6]),if_neg (by simpa using h1),jpZ.numQ,if_neg h3,jk4,if_pos h2]
theorem exK:jac jb3 exL=0:=by
 have h4:jb9 [119,104,101,97,116]=true:=by decide+kernel
 have e1:jb3 ⟨[119,104,101,97,116],600,[([97],[49])]⟩=0:=by
  unfold jb3;dsimp only;rw [if_neg (by rw [h4];simp),if_neg (by omega),jrN]
 have e2:jb3 ⟨[119,104,101,97,116],400,[([97],[49,47,50]),([98],[49,47,50])]⟩=0:=by
  unfold jb3;dsimp only;rw [if_neg (by rw [h4];simp),if_neg (by omega),jrP]
 unfold exL
 rw [jad e1,jad e2];rfl
theorem exM:jmc (exL.getD 0 jbW).grain 0 exL=(1000,0):=by decide+kernel
theorem jrY:∀x∈exL,LayIn x:=by
 intro x hx
 simp only [exL,List.mem_cons,List.not_mem_nil,or_false] at hx
 rcases hx with rfl|rfl
 ·exact ⟨⟨by decide,by decide⟩,by decide,by decide⟩
 ·exact ⟨⟨by decide,by decide⟩,by decide,by decide⟩
theorem jrZ:∀x∈exL,∀p∈x.shares,Sz 1 (numQ p.2):=by
 have h1:Sz 1 (1:Rat):=⟨by rw [Nat.pow_one,ja7];decide+kernel,by rw [Nat.pow_one,ja7];decide+kernel⟩
 have h2:Sz 1 (1/2:Rat):=⟨by rw [Nat.pow_one,ja7];decide+kernel,by rw [Nat.pow_one,ja7];decide+kernel⟩
 intro x hx
 simp only [exL,List.mem_cons,List.not_mem_nil,or_false] at hx
 rcases hx with rfl|rfl
 ·intro p hp
  simp only [List.mem_cons,List.not_mem_nil,or_false] at hp
  subst hp;dsimp only;rw [ex1.numQ];exact h1
 ·intro p hp
  simp only [List.mem_cons,List.not_mem_nil,or_false] at hp
  rcases hp with rfl|rfl
  ·dsimp only;rw [jpZ.numQ];exact h2
  ·dsimp only;rw [jpZ.numQ];exact h2
def jme:List (List UInt8):=[[97],[98]]
def jju:List (List UInt8×List UInt8):=[([97],[52,47,53]),([98],[49,47,53])]
theorem exO:Ordered jme:=⟨by decide,by decide⟩
theorem jri:∀x,x∈jme↔jfq (jaM exL) x=true:=by
 intro x
 rw [exC]
 simp [jme,jfq]
 constructor
 ·rintro (rfl|rfl) <;> simp
 ·rintro (rfl|rfl) <;> simp
theorem jrK:tot (jaM exL) [97] / ((1000:Int):Rat)=4/5:=by rw [exC];decide+kernel
theorem js3:tot (jaM exL) [98] / ((1000:Int):Rat)=1/5:=by rw [exC];decide+kernel
theorem jr2:jbE (4/5)=[52,47,53]∧jbF (4/5)=0∧jbE (1/5)=[49,47,53]∧jbF (1/5)=0:=by decide+kernel
theorem jq5:∀j,j < jme.length→(jju.getD j ([],[])).1=jme.getD j []∧StrQ (tot (jaM exL) (jme.getD j []) / ((1000:Int):Rat))∧jbE (tot (jaM exL) (jme.getD j []) / ((1000:Int):Rat))=(jju.getD j ([],[])).2∧jbF (tot (jaM exL) (jme.getD j []) / ((1000:Int):Rat))=0:=by
 intro j hj
 have h:j=0∨j=1:=by simp [jme] at hj;omega
 rcases h with rfl|rfl
 ·refine ⟨rfl, ?_⟩
  show StrQ (tot (jaM exL) [97] / ((1000:Int):Rat))∧jbE (tot (jaM exL) [97] / ((1000:Int):Rat))=[52,47,53]∧jbF (tot (jaM exL) [97] / ((1000:Int):Rat))=0
  rw [jrK]
  exact ⟨jnH (by decide+kernel),jr2.1,jr2.2.1⟩
 ·refine ⟨rfl, ?_⟩
  show StrQ (tot (jaM exL) [98] / ((1000:Int):Rat))∧jbE (tot (jaM exL) [98] / ((1000:Int):Rat))=[49,47,53]∧jbF (tot (jaM exL) [98] / ((1000:Int):Rat))=0
  rw [js3]
  exact ⟨jnH (by decide+kernel),jr2.2.2.1,jr2.2.2.2⟩

theorem je4 {W:World} {p:Nat} {t:TypeId} (ps:List (List UInt8×List UInt8)) (hp:W.heap.size=p):Pv (W.alloc (.cells (shs ps).toArray t)) (some ⟨p,0,none⟩) ps.length ps:=by
 subst hp
 refine ⟨rfl,fun _=>⟨_,0,rfl,by simp,fun j hj=> ?_⟩⟩
 have h (k:Nat) (hk:k < 2):(W.alloc (.cells (shs ps).toArray t)).cell? ⟨W.heap.size,0+j*2+k,none⟩=(shs [ps.getD j ([],[])])[k]? :=by
  rw [←jlj ps j k hj hk];simp
 exact ⟨h 0 (by omega),h 1 (by omega)⟩
theorem jfI {W:World} {p:Nat} {t:TypeId} (zs:List Int) (hz:∀z∈zs,R64 z) (hp:W.heap.size=p):Iv (W.alloc (.cells (jcL zs) t)) (some ⟨p,0,none⟩) zs.length zs:=by
 subst hp
 refine ⟨rfl,hz,fun _=>⟨_,0,rfl,by simp,fun j hj=> ?_⟩⟩
 have:=jbB hj
 simpa using this
theorem jq4 {W:World} {b:Nat} {t:TypeId} {zs:List Int} (hz:∀z∈zs,R64 z) (h:Blk W b t (jcL zs)):Iv W (some ⟨b,0,none⟩) zs.length zs:=by
 refine ⟨rfl,hz,fun _=>⟨_,0,rfl,h.lt,fun j hj=> ?_⟩⟩
 have:=jbB hj
 have e:W.heap[b]? =some (.cells (jcL zs) t (0,0)):=h
 simp [World.cell?,e,this]
theorem jqI {W:World} {p:Nat} {A B:Option Addr} {c d:Nat} (hp:W.heap.size=p) (h1:Pv W A 1 [([97],[49])]) (h2:Pv W B 2 [([97],[49,47,50]),([98],[49,47,50])]):
  Lv (W.alloc (.cells #[bs [119,104,101,97,116], .int .i64 600, .slice A 1 c,bs [119,104,101,97,116], .int .i64 400, .slice B 2 d] 52)) (some ⟨p,0,none⟩) 2 exL:=by
 subst hp
 refine ⟨rfl,fun _=>⟨_,0,rfl,by simp,fun j hj=> ?_⟩⟩
 have hb:=ja6 (Below.refl W.heap.size W) (.cells #[bs [119,104,101,97,116], .int .i64 600, .slice A 1 c,bs [119,104,101,97,116], .int .i64 400, .slice B 2 d] 52)
 have h:j=0∨j=1:=by omega
 rcases h with rfl|rfl
 ·exact ⟨⟨A,c,by simp [exL],by simp [exL],by simp [exL],h1.below hb⟩⟩
 ·exact ⟨⟨B,d,by simp [exL],by simp [exL],by simp [exL],h2.below hb⟩⟩
theorem jo7 {W:World} {p:Nat} (hp:W.heap.size=p):SpIn (W.alloc (.cells #[bs [48],bs [50],bs [49],bs [52],bs [51],bs [53]] 24)) (some ⟨p,0,none⟩) 3 [([48],[50]),([49],[52]),([51],[53])] [0,1,3] [2,4,5]:=
 ⟨je4 [([48],[50]),([49],[52]),([51],[53])] hp,by omega,by omega,by decide,by rw [jad (jhZ ex0 ex2 (by decide+kernel)),jad (jhZ ex1 ex4 (by decide+kernel)),jad (jhZ ex3 ex5 (by decide+kernel))];rfl,rfl,rfl,fun j hj=>by
   have h:j=0∨j=1∨j=2:=by omega
   rcases h with rfl|rfl|rfl
   ·exact ⟨ex0,ex2,⟨by decide+kernel,by decide+kernel,by decide+kernel⟩,⟨by decide+kernel,by decide+kernel,by decide+kernel⟩⟩
   ·exact ⟨ex1,ex4,⟨by decide+kernel,by decide+kernel,by decide+kernel⟩,⟨by decide+kernel,by decide+kernel,by decide+kernel⟩⟩
   ·exact ⟨ex3,ex5,⟨by decide+kernel,by decide+kernel,by decide+kernel⟩,⟨by decide+kernel,by decide+kernel,by decide+kernel⟩⟩⟩
theorem jp8 {W:World} {p:Nat} (hp:W.heap.size=p):SpIn (W.alloc (.cells #[bs [49,48],bs [49,49],bs [49,51],bs [49,53]] 24)) (some ⟨p,0,none⟩) 2 [([49,48],[49,49]),([49,51],[49,53])] [10,13] [11,15]:=
 ⟨je4 [([49,48],[49,49]),([49,51],[49,53])] hp,by omega,by omega,by decide,by rw [jad (jhZ jrB jrt (by decide+kernel)),jad (jhZ jrE jru (by decide+kernel))];rfl,rfl,rfl,fun j hj=>by
   have h:j=0∨j=1:=by omega
   rcases h with rfl|rfl
   ·exact ⟨jrB,jrt,⟨by decide+kernel,by decide+kernel,by decide+kernel⟩,⟨by decide+kernel,by decide+kernel,by decide+kernel⟩⟩
   ·exact ⟨jrE,jru,⟨by decide+kernel,by decide+kernel,by decide+kernel⟩,⟨by decide+kernel,by decide+kernel,by decide+kernel⟩⟩⟩
section
variable {w:World}
theorem jqH (hE:Env w):Calls Tryz.prog 17 #[bs [53,47,56], .agg #[bs [104,97,108,102,45,101,118,101,110],bs [49,47,52]]] w fun e w'=>e= .returned (.tuple #[bs [49,47,50], .int .i64 0])∧Below w.heap.size w w':=
 jji hE (by decide) (by decide) jrO (by decide+kernel) jrD (by decide+kernel) jrM s12 t12.1 t12.2
theorem jqk (hE:Env w):Calls Tryz.prog 17 #[bs [45,53,47,56], .agg #[bs [104,97,108,102,45,117,112],bs [49,47,52]]] w fun e w'=>e= .returned (.tuple #[bs [45,49,47,50], .int .i64 0])∧Below w.heap.size w w':=
 jji hE (by decide) (by decide) jr8 (by decide+kernel) jrD (by decide+kernel) jrQ jrL jrz.1 jrz.2
theorem js2 (hE:Env w):Calls Tryz.prog 9 #[.agg #[bs [49],bs [50]], .agg #[bs [45,49],bs [51]]] w fun e w'=>e= .returned (.tuple #[.agg #[bs [45,50],bs [54]], .int .i64 0])∧Below w.heap.size w w':=
 joy hE (by decide) (by decide) (by decide) (by decide) ex1 ex2 jrq ex3 (by rw [jad (jhZ ex1 ex2 (by decide+kernel)),jad (jhZ jrq ex3 (by decide+kernel))];rfl) jro jr7 sm2 s6 jre.1 jre.2.1 jre.2.2
theorem jrU (hE:Env w):Calls Tryz.prog 22 #[.int .i64 1000,bs [50,48],bs [51,54]] w fun e w'=>e= .returned (.tuple #[bs [49,50,53,48], .int .i64 0])∧Below w.heap.size w w':=
 jq1 hE ⟨jrS,by decide+kernel,by decide+kernel⟩ ⟨jrJ,by decide+kernel,by decide+kernel⟩ (by omega) (by omega) js4 jrk jry.1 jry.2 (by decide) (by decide)
theorem ap1 {A:Option Addr} {c:Nat} (h:Iv w A 3 [3,0,1]):Calls Tryz.prog 19 #[.int .i64 7, .slice A 3 c] w fun e w'=>∃b,e= .returned (.tuple #[.slice (some ⟨b,0,none⟩) 3 3, .int .i64 0])∧Iv w' (some ⟨b,0,none⟩) 3 [5,0,2]∧Below w.heap.size w w':=by
 refine (jgK (m:=2) (s:=4) rfl (by omega) h (fun j=> ?_) (by decide+kernel) (by decide+kernel) (by omega) (by omega) (by omega)).mono ?_
 ·rcases j with _ | _ | _|j <;> simp
 ·rintro e w' ⟨b,rfl,h1,_,h2⟩
  rw [apZ] at h1
  exact ⟨b,rfl,jq4 (by intro z hz;simp at hz;rcases hz with rfl|rfl|rfl <;> exact ⟨by decide,by decide⟩) h1,h2⟩
theorem jrT {A:Option Addr} {c:Nat} (hE:Env w) (h:Lv w A 2 exL):Calls Tryz.prog 20 #[.slice A 2 c] w fun e w'=>∃B d,e= .returned (.tuple #[.agg #[bs [119,104,101,97,116], .int .i64 1000, .slice B 2 d], .int .i64 0])∧Pv w' B 2 jju∧Below w.heap.size w w':=
 jqS (ks:=jme) hE ⟨h,by omega,by omega,jrY,(by omega:1≤18),jrZ,exK,exM⟩ exO jri (by decide) (by decide) rfl rfl jq5
end
end Go.Proofs.YtomkgioebbefnaaGreatDoor
