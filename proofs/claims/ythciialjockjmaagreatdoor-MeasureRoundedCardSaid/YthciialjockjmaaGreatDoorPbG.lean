/- Parts. -/
import Derived.Test.YthciialjockjmaaGreatDoorMl
import Derived.Test.YthciialjockjmaaGreatDoorMt
import Derived.Test.YthciialjockjmaaGreatDoorOg
set_option linter.all false
set_option maxRecDepth 100000
set_option maxHeartbeats 8000000
namespace Go.Proofs.YthciialjockjmaaGreatDoor
open Go Go.RowKit

theorem jqh {x:Rat} {l:List UInt8} (h:tq x=l) (h1:(Go.Lib.decDigits x.num.natAbs).length≤600) (h2:(Go.Lib.decDigits x.den).length≤600):IsNum l x:=⟨h.symm,h1,h2⟩
theorem jg9 {x:Rat} {l:List UInt8} (h:tq x=l∧(Go.Lib.decDigits x.num.natAbs).length≤600∧(Go.Lib.decDigits x.den).length≤600):IsNum l x:=jqh h.1 h.2.1 h.2.2
theorem jrl:IsNum [53,47,56] (5/8):=jg9 (by decide+kernel)
theorem jqF:IsNum [45,53,47,56] (-5/8):=jg9 (by decide+kernel)
theorem jqS:IsNum [49,47,52] (1/4):=jg9 (by decide+kernel)
theorem jpl:IsNum [49,47,50] (1/2):=jg9 (by decide+kernel)
theorem ex0:IsNum [48] 0:=jg9 (by decide+kernel)
theorem ex1:IsNum [49] 1:=jg9 (by decide+kernel)
theorem ex2:IsNum [50] 2:=jg9 (by decide+kernel)
theorem jqJ:IsNum [45,49] (-1):=jg9 (by decide+kernel)
theorem ex3:IsNum [51] 3:=jg9 (by decide+kernel)
theorem ex4:IsNum [52] 4:=jg9 (by decide+kernel)
theorem ex5:IsNum [53] 5:=jg9 (by decide+kernel)
theorem jqY:IsNum [49,48] 10:=jg9 (by decide+kernel)
theorem jqW:IsNum [49,49] 11:=jg9 (by decide+kernel)
theorem jqK:IsNum [49,51] 13:=jg9 (by decide+kernel)
theorem jqP:IsNum [49,53] 15:=jg9 (by decide+kernel)
theorem jri:IsNum [50,48] 20:=jg9 (by decide+kernel)
theorem jrh:IsNum [51,54] 36:=jg9 (by decide+kernel)
theorem jq8 {x:Rat} (h1: -9223372036854775808 < x.num) (h2:x.num < 9223372036854775808) (h3:x.den < 9223372036854775808):StrQ x:=StrQ.small h1 h2 h3
theorem jm4 {x:Rat} (h: -9223372036854775808 < x.num∧x.num < 9223372036854775808∧x.den < 9223372036854775808):StrQ x:=jq8 h.1 h.2.1 h.2.2
theorem jrp:rnd [104,97,108,102,45,101,118,101,110] (5/8) (1/4)=1/2:=by decide+kernel
theorem jrc:rnd [104,97,108,102,45,117,112] (-5/8) (1/4)= -1/2:=by decide+kernel
theorem t12:jbB (1/2)=[49,47,50]∧jbI (1/2)=0:=by decide+kernel
theorem jqR:jbB (-1/2)=[45,49,47,50]∧jbI (-1/2)=0:=by decide+kernel
theorem s12:StrQ (1/2):=jm4 (by decide+kernel)
theorem jrj:StrQ (-1/2):=jm4 (by decide+kernel)
theorem jqE:jkH ((1:Rat)*(-1)) [1*3,2*(-1),2*3]= -2:=by decide+kernel
theorem jqv:jjJ ((1:Rat)*(-1)) [1*3,2*(-1),2*3]=6:=by decide+kernel
theorem jqn:jp6 (-2) 6=[45,50]∧jom (-2) 6=[54]∧joJ (-2) 6=0:=by decide+kernel
theorem sm2:StrQ (-2):=jm4 (by decide+kernel)
theorem s6:StrQ 6:=jm4 (by decide+kernel)
theorem jpt:jkt (jlF [0,1,3] [2,4,5]) 3 3 0=some (0,2):=by decide+kernel
theorem jqr:jcD [10,13] [2,1] 2 / ((3:Int):Rat)=11:=by decide+kernel
theorem jqD:jcD [11,15] [2,1] 2 / ((3:Int):Rat)=37/3:=by decide+kernel
theorem joz:jp6 11 (37/3)=[49,49]∧jom 11 (37/3)=[51,55,47,51]∧joJ 11 (37/3)=0:=by decide+kernel
theorem s11:StrQ 11:=jm4 (by decide+kernel)
theorem jr5:StrQ (37/3):=jm4 (by decide+kernel)
theorem jrd:((1000:Int):Rat)*(100 - 20) / (100 - 36)=1250:=by decide+kernel
theorem jqL:jbB 1250=[49,50,53,48]∧jbI 1250=0:=by decide+kernel
theorem jqs:StrQ 1250:=jm4 (by decide+kernel)
theorem apZ:(List.range 3).map (App.out 7 4 (fun j=> [3,0,1].getD j 0) (apL 7 4 [3,0,1] 2) (App.left 7 4 (fun j=> [3,0,1].getD j 0) 3).toNat)=[5,0,2]:=by decide+kernel
theorem ji2 {a b:List UInt8} {x y:Rat} (ha:IsNum a x) (hb:IsNum b y) (h:x≤y):jby (a,b)=0:=by
 have h1:=jau.2 ⟨x,ha⟩
 have h2:=jau.2 ⟨y,hb⟩
 have e:jaf chk [a,b]=0:=by rw [jad h1,jad h2];rfl
 unfold jby
 dsimp only
 rw [if_neg (by rw [e];simp),ha.numQ,hb.numQ,if_neg (Rat.not_lt.2 h)]
def exL:List Lay:=[⟨[119,104,101,97,116],600,[([97],[49])]⟩,⟨[119,104,101,97,116],400,[([97],[49,47,50]),([98],[49,47,50])]⟩]
theorem exC:jaO exL=[([97],600),([97],200),([98],200)]:=by
 have h1:(1:Rat)*((600:Int):Rat)=600:=by decide+kernel
 have h2:(1/2:Rat)*((400:Int):Rat)=200:=by decide+kernel
 show jbm 600 [([97],[49])]++(jbm 400 [([97],[49,47,50]),([98],[49,47,50])]++[])=_
 unfold jbm
 simp only [List.map_cons,List.map_nil,ex1.numQ,jpl.numQ,h1,h2]
 rfl
theorem jr2:jb0 [([97],[49])]=0:=by
 have h1:chk [49]=0:=jau.2 ⟨_,ex1⟩
 have h2:((0:Rat)+1=1):=by decide+kernel
 have h3:¬((1:Rat)≤0):=by decide+kernel
 have h4:jb8 [97]=true:=by decide+kernel
 unfold jb0
 simp [jjF,h1,h2,h3,h4,ex1.numQ,jf7]
theorem jrb:jb0 [([97],[49,47,50]),([98],[49,47,50])]=0:=by
 have h1:chk [49,47,50]=0:=jau.2 ⟨_,jpl⟩
 have h2:((0:Rat)+1/2+1/2=1):=by decide+kernel
 have h3:¬((1/2:Rat)≤0):=by decide+kernel
 have h4:jb8 [97]=true:=by decide+kernel
 have h5:jb8 [98]=true:=by decide+kernel
 have h6:jjg [98] [97]=false:=by decide+kernel
 unfold jb0
 rw [if_neg (by simp),if_neg (by simp),jjF,if_neg (by rw [h4];simp),if_neg (by simp [jf7]),if_neg (by simpa using h1),jpl.numQ,if_neg h3,jjF,if_neg (by rw [h5];simp),if_neg (by simp [jf7,h6]),if_neg (by simpa using h1),jpl.numQ,if_neg h3,jjF,if_pos h2]
theorem exK:jaf jb2 exL=0:=by
 have h4:jb8 [119,104,101,97,116]=true:=by decide+kernel
 have e1:jb2 ⟨[119,104,101,97,116],600,[([97],[49])]⟩=0:=by
  unfold jb2;dsimp only;rw [if_neg (by rw [h4];simp),if_neg (by omega),jr2]
 have e2:jb2 ⟨[119,104,101,97,116],400,[([97],[49,47,50]),([98],[49,47,50])]⟩=0:=by
  unfold jb2;dsimp only;rw [if_neg (by rw [h4];simp),if_neg (by omega),jrb]
 unfold exL
 rw [jad e1,jad e2];rfl
theorem exM:jlG (exL.getD 0 jbR).grain 0 exL=(1000,0):=by decide+kernel
theorem jr9:∀x∈exL,LayIn x:=by
 intro x hx
 simp only [exL,List.mem_cons,List.not_mem_nil,or_false] at hx
 rcases hx with rfl|rfl
 ·exact ⟨⟨by decide,by decide⟩,by decide,by decide⟩
 ·exact ⟨⟨by decide,by decide⟩,by decide,by decide⟩
theorem jrg:∀x∈exL,∀p∈x.shares,Sz 1 (numQ p.2):=by
 have h1:Sz 1 (1:Rat):=⟨by rw [Nat.pow_one,ja8];decide+kernel,by rw [Nat.pow_one,ja8];decide+kernel⟩
 have h2:Sz 1 (1/2:Rat):=⟨by rw [Nat.pow_one,ja8];decide+kernel,by rw [Nat.pow_one,ja8];decide+kernel⟩
 intro x hx
 simp only [exL,List.mem_cons,List.not_mem_nil,or_false] at hx
 rcases hx with rfl|rfl
 ·intro p hp
  simp only [List.mem_cons,List.not_mem_nil,or_false] at hp
  subst hp;dsimp only;rw [ex1.numQ];exact h1
 ·intro p hp
  simp only [List.mem_cons,List.not_mem_nil,or_false] at hp
  rcases hp with rfl|rfl
  ·dsimp only;rw [jpl.numQ];exact h2
  ·dsimp only;rw [jpl.numQ];exact h2
def jlH:List (List UInt8):=[[97],[98]]
def jj4:List (List UInt8×List UInt8):=[([97],[52,47,53]),([98],[49,47,53])]
theorem exO:Ordered jlH:=⟨by decide,by decide⟩
theorem jqA:∀x,x∈jlH↔jf8 (jaO exL) x=true:=by
 intro x
 rw [exC]
 simp [jlH,jf8]
 constructor
 ·rintro (rfl|rfl) <;> simp
 ·rintro (rfl|rfl) <;> simp
theorem jr1:tot (jaO exL) [97] / ((1000:Int):Rat)=4/5:=by rw [exC];decide+kernel
theorem jr0:tot (jaO exL) [98] / ((1000:Int):Rat)=1/5:=by rw [exC];decide+kernel
theorem jqm:jbB (4/5)=[52,47,53]∧jbI (4/5)=0∧jbB (1/5)=[49,47,53]∧jbI (1/5)=0:=by decide+kernel
theorem jqd:∀j,j < jlH.length→(jj4.getD j ([],[])).1=jlH.getD j []∧StrQ (tot (jaO exL) (jlH.getD j []) / ((1000:Int):Rat))∧jbB (tot (jaO exL) (jlH.getD j []) / ((1000:Int):Rat))=(jj4.getD j ([],[])).2∧jbI (tot (jaO exL) (jlH.getD j []) / ((1000:Int):Rat))=0:=by
 intro j hj
 have h:j=0∨j=1:=by simp [jlH] at hj;omega
 rcases h with rfl|rfl
 ·refine ⟨rfl, ?_⟩
  show StrQ (tot (jaO exL) [97] / ((1000:Int):Rat))∧jbB (tot (jaO exL) [97] / ((1000:Int):Rat))=[52,47,53]∧jbI (tot (jaO exL) [97] / ((1000:Int):Rat))=0
  rw [jr1]
  exact ⟨jm4 (by decide+kernel),jqm.1,jqm.2.1⟩
 ·refine ⟨rfl, ?_⟩
  show StrQ (tot (jaO exL) [98] / ((1000:Int):Rat))∧jbB (tot (jaO exL) [98] / ((1000:Int):Rat))=[49,47,53]∧jbI (tot (jaO exL) [98] / ((1000:Int):Rat))=0
  rw [jr0]
  exact ⟨jm4 (by decide+kernel),jqm.2.2.1,jqm.2.2.2⟩

theorem jdQ {W:World} {p:Nat} {t:TypeId} (ps:List (List UInt8×List UInt8)) (hp:W.heap.size=p):Pv (W.alloc (.cells (shs ps).toArray t)) (some ⟨p,0,none⟩) ps.length ps:=by
 subst hp
 refine ⟨rfl,fun _=>⟨_,0,rfl,by simp,fun j hj=> ?_⟩⟩
 have h (k:Nat) (hk:k < 2):(W.alloc (.cells (shs ps).toArray t)).cell? ⟨W.heap.size,0+j*2+k,none⟩=(shs [ps.getD j ([],[])])[k]? :=by
  rw [←jkk ps j k hj hk];simp
 exact ⟨h 0 (by omega),h 1 (by omega)⟩
theorem jfC {W:World} {p:Nat} {t:TypeId} (zs:List Int) (hz:∀z∈zs,R64 z) (hp:W.heap.size=p):Iv (W.alloc (.cells (jcF zs) t)) (some ⟨p,0,none⟩) zs.length zs:=by
 subst hp
 refine ⟨rfl,hz,fun _=>⟨_,0,rfl,by simp,fun j hj=> ?_⟩⟩
 have:=jbA hj
 simpa using this
theorem jpC {W:World} {b:Nat} {t:TypeId} {zs:List Int} (hz:∀z∈zs,R64 z) (h:Blk W b t (jcF zs)):Iv W (some ⟨b,0,none⟩) zs.length zs:=by
 refine ⟨rfl,hz,fun _=>⟨_,0,rfl,h.lt,fun j hj=> ?_⟩⟩
 have:=jbA hj
 have e:W.heap[b]? =some (.cells (jcF zs) t (0,0)):=h
 simp [World.cell?,e,this]
theorem jpV {W:World} {p:Nat} {A B:Option Addr} {c d:Nat} (hp:W.heap.size=p) (h1:Pv W A 1 [([97],[49])]) (h2:Pv W B 2 [([97],[49,47,50]),([98],[49,47,50])]):
  Lv (W.alloc (.cells #[bs [119,104,101,97,116], .int .i64 600, .slice A 1 c,bs [119,104,101,97,116], .int .i64 400, .slice B 2 d] 51)) (some ⟨p,0,none⟩) 2 exL:=by
 subst hp
 refine ⟨rfl,fun _=>⟨_,0,rfl,by simp,fun j hj=> ?_⟩⟩
 have hb:=ja7 (Below.refl W.heap.size W) (.cells #[bs [119,104,101,97,116], .int .i64 600, .slice A 1 c,bs [119,104,101,97,116], .int .i64 400, .slice B 2 d] 51)
 have h:j=0∨j=1:=by omega
 rcases h with rfl|rfl
 ·exact ⟨⟨A,c,by simp [exL],by simp [exL],by simp [exL],h1.below hb⟩⟩
 ·exact ⟨⟨B,d,by simp [exL],by simp [exL],by simp [exL],h2.below hb⟩⟩
theorem jmF {W:World} {p:Nat} (hp:W.heap.size=p):SpIn (W.alloc (.cells #[bs [48],bs [50],bs [49],bs [52],bs [51],bs [53]] 39)) (some ⟨p,0,none⟩) 3 [([48],[50]),([49],[52]),([51],[53])] [0,1,3] [2,4,5]:=
 ⟨jdQ [([48],[50]),([49],[52]),([51],[53])] hp,by omega,by omega,by decide,by rw [jad (ji2 ex0 ex2 (by decide+kernel)),jad (ji2 ex1 ex4 (by decide+kernel)),jad (ji2 ex3 ex5 (by decide+kernel))];rfl,rfl,rfl,fun j hj=>by
   have h:j=0∨j=1∨j=2:=by omega
   rcases h with rfl|rfl|rfl
   ·exact ⟨ex0,ex2,⟨by decide+kernel,by decide+kernel,by decide+kernel⟩,⟨by decide+kernel,by decide+kernel,by decide+kernel⟩⟩
   ·exact ⟨ex1,ex4,⟨by decide+kernel,by decide+kernel,by decide+kernel⟩,⟨by decide+kernel,by decide+kernel,by decide+kernel⟩⟩
   ·exact ⟨ex3,ex5,⟨by decide+kernel,by decide+kernel,by decide+kernel⟩,⟨by decide+kernel,by decide+kernel,by decide+kernel⟩⟩⟩
theorem joA {W:World} {p:Nat} (hp:W.heap.size=p):SpIn (W.alloc (.cells #[bs [49,48],bs [49,49],bs [49,51],bs [49,53]] 39)) (some ⟨p,0,none⟩) 2 [([49,48],[49,49]),([49,51],[49,53])] [10,13] [11,15]:=
 ⟨jdQ [([49,48],[49,49]),([49,51],[49,53])] hp,by omega,by omega,by decide,by rw [jad (ji2 jqY jqW (by decide+kernel)),jad (ji2 jqK jqP (by decide+kernel))];rfl,rfl,rfl,fun j hj=>by
   have h:j=0∨j=1:=by omega
   rcases h with rfl|rfl
   ·exact ⟨jqY,jqW,⟨by decide+kernel,by decide+kernel,by decide+kernel⟩,⟨by decide+kernel,by decide+kernel,by decide+kernel⟩⟩
   ·exact ⟨jqK,jqP,⟨by decide+kernel,by decide+kernel,by decide+kernel⟩,⟨by decide+kernel,by decide+kernel,by decide+kernel⟩⟩⟩
section
variable {w:World}
theorem jpH (hE:Env w):Calls Tryz.prog 7 #[bs [53,47,56], .agg #[bs [104,97,108,102,45,101,118,101,110],bs [49,47,52]]] w fun e w'=>e= .returned (.tuple #[bs [49,47,50], .int .i64 0])∧Below w.heap.size w w':=
 jda hE (by decide) (by decide) jrl (by decide+kernel) jqS (by decide+kernel) jrp s12 t12.1 t12.2
theorem jpq (hE:Env w):Calls Tryz.prog 7 #[bs [45,53,47,56], .agg #[bs [104,97,108,102,45,117,112],bs [49,47,52]]] w fun e w'=>e= .returned (.tuple #[bs [45,49,47,50], .int .i64 0])∧Below w.heap.size w w':=
 jda hE (by decide) (by decide) jqF (by decide+kernel) jqS (by decide+kernel) jrc jrj jqR.1 jqR.2
theorem jre (hE:Env w):Calls Tryz.prog 16 #[.agg #[bs [49],bs [50]], .agg #[bs [45,49],bs [51]]] w fun e w'=>e= .returned (.tuple #[.agg #[bs [45,50],bs [54]], .int .i64 0])∧Below w.heap.size w w':=
 jps hE (by decide) (by decide) (by decide) (by decide) ex1 ex2 jqJ ex3 (by rw [jad (ji2 ex1 ex2 (by decide+kernel)),jad (ji2 jqJ ex3 (by decide+kernel))];rfl) jqE jqv sm2 s6 jqn.1 jqn.2.1 jqn.2.2
theorem jra (hE:Env w):Calls Tryz.prog 22 #[.int .i64 1000,bs [50,48],bs [51,54]] w fun e w'=>e= .returned (.tuple #[bs [49,50,53,48], .int .i64 0])∧Below w.heap.size w w':=
 jq2 hE ⟨jri,by decide+kernel,by decide+kernel⟩ ⟨jrh,by decide+kernel,by decide+kernel⟩ (by omega) (by omega) jrd jqs jqL.1 jqL.2 (by decide) (by decide)
theorem ap1 {A:Option Addr} {c:Nat} (h:Iv w A 3 [3,0,1]):Calls Tryz.prog 19 #[.int .i64 7, .slice A 3 c] w fun e w'=>∃b,e= .returned (.tuple #[.slice (some ⟨b,0,none⟩) 3 3, .int .i64 0])∧Iv w' (some ⟨b,0,none⟩) 3 [5,0,2]∧Below w.heap.size w w':=by
 refine (jgv (m:=2) (s:=4) rfl (by omega) h (fun j=> ?_) (by decide+kernel) (by decide+kernel) (by omega) (by omega) (by omega)).mono ?_
 ·rcases j with _ | _ | _|j <;> simp
 ·rintro e w' ⟨b,rfl,h1,_,h2⟩
  rw [apZ] at h1
  exact ⟨b,rfl,jpC (by intro z hz;simp at hz;rcases hz with rfl|rfl|rfl <;> exact ⟨by decide,by decide⟩) h1,h2⟩
theorem jr8 {A:Option Addr} {c:Nat} (hE:Env w) (h:Lv w A 2 exL):Calls Tryz.prog 20 #[.slice A 2 c] w fun e w'=>∃B d,e= .returned (.tuple #[.agg #[bs [119,104,101,97,116], .int .i64 1000, .slice B 2 d], .int .i64 0])∧Pv w' B 2 jj4∧Below w.heap.size w w':=
 jpM (ks:=jlH) hE ⟨h,by omega,by omega,jr9,(by omega:1≤18),jrg,exK,exM⟩ exO jqA (by decide) (by decide) rfl rfl jqd
end
end Go.Proofs.YthciialjockjmaaGreatDoor
