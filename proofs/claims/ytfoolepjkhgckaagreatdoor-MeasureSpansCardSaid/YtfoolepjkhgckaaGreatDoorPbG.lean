/- Parts. -/
import Derived.Test.YtfoolepjkhgckaaGreatDoorMt
import Derived.Test.YtfoolepjkhgckaaGreatDoorOg
set_option linter.all false
set_option maxRecDepth 100000
set_option maxHeartbeats 8000000
namespace Go.Proofs.YtfoolepjkhgckaaGreatDoor
open Go Go.RowKit

theorem jt8 {x:Rat} {l:List UInt8} (h:tq x=l) (h1:(Go.Lib.decDigits x.num.natAbs).length≤600) (h2:(Go.Lib.decDigits x.den).length≤600):IsNum l x:=⟨h.symm,h1,h2⟩
theorem jhJ {x:Rat} {l:List UInt8} (h:tq x=l∧(Go.Lib.decDigits x.num.natAbs).length≤600∧(Go.Lib.decDigits x.den).length≤600):IsNum l x:=jt8 h.1 h.2.1 h.2.2
theorem jup:IsNum [53,47,56] (5/8):=jhJ (by decide+kernel)
theorem jtN:IsNum [45,53,47,56] (-5/8):=jhJ (by decide+kernel)
theorem juc:IsNum [49,47,52] (1/4):=jhJ (by decide+kernel)
theorem jss:IsNum [49,47,50] (1/2):=jhJ (by decide+kernel)
theorem ex0:IsNum [48] 0:=jhJ (by decide+kernel)
theorem ex1:IsNum [49] 1:=jhJ (by decide+kernel)
theorem ex2:IsNum [50] 2:=jhJ (by decide+kernel)
theorem ju6:IsNum [45,49] (-1):=jhJ (by decide+kernel)
theorem ex3:IsNum [51] 3:=jhJ (by decide+kernel)
theorem ex4:IsNum [52] 4:=jhJ (by decide+kernel)
theorem ex5:IsNum [53] 5:=jhJ (by decide+kernel)
theorem jtZ:IsNum [49,48] 10:=jhJ (by decide+kernel)
theorem jud:IsNum [49,49] 11:=jhJ (by decide+kernel)
theorem jtY:IsNum [49,51] 13:=jhJ (by decide+kernel)
theorem ju7:IsNum [49,53] 15:=jhJ (by decide+kernel)
theorem juu:IsNum [50,48] 20:=jhJ (by decide+kernel)
theorem juv:IsNum [51,54] 36:=jhJ (by decide+kernel)
theorem jti {x:Rat} (h1: -9223372036854775808 < x.num) (h2:x.num < 9223372036854775808) (h3:x.den < 9223372036854775808):StrQ x:=StrQ.small h1 h2 h3
theorem jog {x:Rat} (h: -9223372036854775808 < x.num∧x.num < 9223372036854775808∧x.den < 9223372036854775808):StrQ x:=jti h.1 h.2.1 h.2.2
theorem juq:rnd [104,97,108,102,45,101,118,101,110] (5/8) (1/4)=1/2:=by decide+kernel
theorem jum:rnd [104,97,108,102,45,117,112] (-5/8) (1/4)= -1/2:=by decide+kernel
theorem t12:jbl (1/2)=[49,47,50]∧jba (1/2)=0:=by decide+kernel
theorem ju3:jbl (-1/2)=[45,49,47,50]∧jba (-1/2)=0:=by decide+kernel
theorem s12:StrQ (1/2):=jog (by decide+kernel)
theorem juC:StrQ (-1/2):=jog (by decide+kernel)
theorem jtT:jiF ((1:Rat)*(-1)) [1*3,2*(-1),2*3]= -2:=by decide+kernel
theorem jtJ:jiD ((1:Rat)*(-1)) [1*3,2*(-1),2*3]=6:=by decide+kernel
theorem jtD:jkk (-2) 6=[45,50]∧jjU (-2) 6=[54]∧jkb (-2) 6=0:=by decide+kernel
theorem sm2:StrQ (-2):=jog (by decide+kernel)
theorem s6:StrQ 6:=jog (by decide+kernel)
theorem jsH:jn1 (jof [0,1,3] [2,4,5]) 3 3 0=some (0,2):=by decide+kernel
theorem jty:jdd [10,13] [2,1] 2 / ((3:Int):Rat)=11:=by decide+kernel
theorem jtF:jdd [11,15] [2,1] 2 / ((3:Int):Rat)=37/3:=by decide+kernel
theorem jsr:jkk 11 (37/3)=[49,49]∧jjU 11 (37/3)=[51,55,47,51]∧jkb 11 (37/3)=0:=by decide+kernel
theorem s11:StrQ 11:=jog (by decide+kernel)
theorem juj:StrQ (37/3):=jog (by decide+kernel)
theorem juh:((1000:Int):Rat)*(100 - 20) / (100 - 36)=1250:=by decide+kernel
theorem ju5:jbl 1250=[49,50,53,48]∧jba 1250=0:=by decide+kernel
theorem jtQ:StrQ 1250:=jog (by decide+kernel)
theorem apZ:(List.range 3).map (App.out 7 4 (fun j=> [3,0,1].getD j 0) (apL 7 4 [3,0,1] 2) (App.left 7 4 (fun j=> [3,0,1].getD j 0) 3).toNat)=[5,0,2]:=by decide+kernel
theorem jjE {a b:List UInt8} {x y:Rat} (ha:IsNum a x) (hb:IsNum b y) (h:x≤y):jab (a,b)=0:=by
 have h1:=jaj.2 ⟨x,ha⟩
 have h2:=jaj.2 ⟨y,hb⟩
 have e:ja7 chk [a,b]=0:=by rw [jad h1,jad h2];rfl
 unfold jab
 dsimp only
 rw [if_neg (by rw [e];simp),ha.numQ,hb.numQ,if_neg (Rat.not_lt.2 h)]
def exL:List Lay:=[⟨[119,104,101,97,116],600,[([97],[49])]⟩,⟨[119,104,101,97,116],400,[([97],[49,47,50]),([98],[49,47,50])]⟩]
theorem exC:jaY exL=[([97],600),([97],200),([98],200)]:=by
 have h1:(1:Rat)*((600:Int):Rat)=600:=by decide+kernel
 have h2:(1/2:Rat)*((400:Int):Rat)=200:=by decide+kernel
 show jbx 600 [([97],[49])]++(jbx 400 [([97],[49,47,50]),([98],[49,47,50])]++[])=_
 unfold jbx
 simp only [List.map_cons,List.map_nil,ex1.numQ,jss.numQ,h1,h2]
 rfl
theorem jul:jbb [([97],[49])]=0:=by
 have h1:chk [49]=0:=jaj.2 ⟨_,ex1⟩
 have h2:((0:Rat)+1=1):=by decide+kernel
 have h3:¬((1:Rat)≤0):=by decide+kernel
 have h4:jbk [97]=true:=by decide+kernel
 unfold jbb
 simp [jlF,h1,h2,h3,h4,ex1.numQ,jfR]
theorem juz:jbb [([97],[49,47,50]),([98],[49,47,50])]=0:=by
 have h1:chk [49,47,50]=0:=jaj.2 ⟨_,jss⟩
 have h2:((0:Rat)+1/2+1/2=1):=by decide+kernel
 have h3:¬((1/2:Rat)≤0):=by decide+kernel
 have h4:jbk [97]=true:=by decide+kernel
 have h5:jbk [98]=true:=by decide+kernel
 have h6:jkM [98] [97]=false:=by decide+kernel
 unfold jbb
 rw [if_neg (by simp),if_neg (by simp),jlF,if_neg (by rw [h4];simp),if_neg (by simp [jfR]),if_neg (by simpa using h1),jss.numQ,if_neg h3,jlF,if_neg (by rw [h5];simp),if_neg (by simp [jfR,h6]),if_neg (by simpa using h1),jss.numQ,if_neg h3,jlF,if_pos h2]
theorem exK:ja7 jbd exL=0:=by
 have h4:jbk [119,104,101,97,116]=true:=by decide+kernel
 have e1:jbd ⟨[119,104,101,97,116],600,[([97],[49])]⟩=0:=by
  unfold jbd;dsimp only;rw [if_neg (by rw [h4];simp),if_neg (by omega),jul]
 have e2:jbd ⟨[119,104,101,97,116],400,[([97],[49,47,50]),([98],[49,47,50])]⟩=0:=by
  unfold jbd;dsimp only;rw [if_neg (by rw [h4];simp),if_neg (by omega),juz]
 unfold exL
 rw [jad e1,jad e2];rfl
theorem exM:joc (exL.getD 0 jc9).grain 0 exL=(1000,0):=by decide+kernel
theorem jui:∀x∈exL,LayIn x:=by
 intro x hx
 simp only [exL,List.mem_cons,List.not_mem_nil,or_false] at hx
 rcases hx with rfl|rfl
 ·exact ⟨⟨by decide,by decide⟩,by decide,by decide⟩
 ·exact ⟨⟨by decide,by decide⟩,by decide,by decide⟩
theorem jus:∀x∈exL,∀p∈x.shares,Sz 1 (numQ p.2):=by
 have h1:Sz 1 (1:Rat):=⟨by rw [Nat.pow_one,ja8];decide+kernel,by rw [Nat.pow_one,ja8];decide+kernel⟩
 have h2:Sz 1 (1/2:Rat):=⟨by rw [Nat.pow_one,ja8];decide+kernel,by rw [Nat.pow_one,ja8];decide+kernel⟩
 intro x hx
 simp only [exL,List.mem_cons,List.not_mem_nil,or_false] at hx
 rcases hx with rfl|rfl
 ·intro p hp
  simp only [List.mem_cons,List.not_mem_nil,or_false] at hp
  subst hp;dsimp only;rw [ex1.numQ];exact h1
 ·intro p hp
  simp only [List.mem_cons,List.not_mem_nil,or_false] at hp
  rcases hp with rfl|rfl
  ·dsimp only;rw [jss.numQ];exact h2
  ·dsimp only;rw [jss.numQ];exact h2
def jod:List (List UInt8):=[[97],[98]]
def jld:List (List UInt8×List UInt8):=[([97],[52,47,53]),([98],[49,47,53])]
theorem exO:Ordered jod:=⟨by decide,by decide⟩
theorem jtz:∀x,x∈jod↔jg0 (jaY exL) x=true:=by
 intro x
 rw [exC]
 simp [jod,jg0]
 constructor
 ·rintro (rfl|rfl) <;> simp
 ·rintro (rfl|rfl) <;> simp
theorem juy:tot (jaY exL) [97] / ((1000:Int):Rat)=4/5:=by rw [exC];decide+kernel
theorem juA:tot (jaY exL) [98] / ((1000:Int):Rat)=1/5:=by rw [exC];decide+kernel
theorem jtu:jbl (4/5)=[52,47,53]∧jba (4/5)=0∧jbl (1/5)=[49,47,53]∧jba (1/5)=0:=by decide+kernel
theorem jsG:∀j,j < jod.length→(jld.getD j ([],[])).1=jod.getD j []∧StrQ (tot (jaY exL) (jod.getD j []) / ((1000:Int):Rat))∧jbl (tot (jaY exL) (jod.getD j []) / ((1000:Int):Rat))=(jld.getD j ([],[])).2∧jba (tot (jaY exL) (jod.getD j []) / ((1000:Int):Rat))=0:=by
 intro j hj
 have h:j=0∨j=1:=by simp [jod] at hj;omega
 rcases h with rfl|rfl
 ·refine ⟨rfl, ?_⟩
  show StrQ (tot (jaY exL) [97] / ((1000:Int):Rat))∧jbl (tot (jaY exL) [97] / ((1000:Int):Rat))=[52,47,53]∧jba (tot (jaY exL) [97] / ((1000:Int):Rat))=0
  rw [juy]
  exact ⟨jog (by decide+kernel),jtu.1,jtu.2.1⟩
 ·refine ⟨rfl, ?_⟩
  show StrQ (tot (jaY exL) [98] / ((1000:Int):Rat))∧jbl (tot (jaY exL) [98] / ((1000:Int):Rat))=[49,47,53]∧jba (tot (jaY exL) [98] / ((1000:Int):Rat))=0
  rw [juA]
  exact ⟨jog (by decide+kernel),jtu.2.2.1,jtu.2.2.2⟩

theorem jeD {W:World} {p:Nat} {t:TypeId} (ps:List (List UInt8×List UInt8)) (hp:W.heap.size=p):Pv (W.alloc (.cells (shs ps).toArray t)) (some ⟨p,0,none⟩) ps.length ps:=by
 subst hp
 refine ⟨rfl,fun _=>⟨_,0,rfl,by simp,fun j hj=> ?_⟩⟩
 have h (k:Nat) (hk:k < 2):(W.alloc (.cells (shs ps).toArray t)).cell? ⟨W.heap.size,0+j*2+k,none⟩=(shs [ps.getD j ([],[])])[k]? :=by
  rw [←jo6 ps j k hj hk];simp
 exact ⟨h 0 (by omega),h 1 (by omega)⟩
theorem jgh {W:World} {p:Nat} {t:TypeId} (zs:List Int) (hz:∀z∈zs,R64 z) (hp:W.heap.size=p):Iv (W.alloc (.cells (jde zs) t)) (some ⟨p,0,none⟩) zs.length zs:=by
 subst hp
 refine ⟨rfl,hz,fun _=>⟨_,0,rfl,by simp,fun j hj=> ?_⟩⟩
 have:=jbV hj
 simpa using this
theorem jsy {W:World} {b:Nat} {t:TypeId} {zs:List Int} (hz:∀z∈zs,R64 z) (h:Blk W b t (jde zs)):Iv W (some ⟨b,0,none⟩) zs.length zs:=by
 refine ⟨rfl,hz,fun _=>⟨_,0,rfl,h.lt,fun j hj=> ?_⟩⟩
 have:=jbV hj
 have e:W.heap[b]? =some (.cells (jde zs) t (0,0)):=h
 simp [World.cell?,e,this]
theorem jt4 {W:World} {p:Nat} {A B:Option Addr} {c d:Nat} (hp:W.heap.size=p) (h1:Pv W A 1 [([97],[49])]) (h2:Pv W B 2 [([97],[49,47,50]),([98],[49,47,50])]):
  Lv (W.alloc (.cells #[bs [119,104,101,97,116], .int .i64 600, .slice A 1 c,bs [119,104,101,97,116], .int .i64 400, .slice B 2 d] 76)) (some ⟨p,0,none⟩) 2 exL:=by
 subst hp
 refine ⟨rfl,fun _=>⟨_,0,rfl,by simp,fun j hj=> ?_⟩⟩
 have hb:=ja4 (Below.refl W.heap.size W) (.cells #[bs [119,104,101,97,116], .int .i64 600, .slice A 1 c,bs [119,104,101,97,116], .int .i64 400, .slice B 2 d] 76)
 have h:j=0∨j=1:=by omega
 rcases h with rfl|rfl
 ·exact ⟨⟨A,c,by simp [exL],by simp [exL],by simp [exL],h1.below hb⟩⟩
 ·exact ⟨⟨B,d,by simp [exL],by simp [exL],by simp [exL],h2.below hb⟩⟩
theorem jqm {W:World} {p:Nat} (hp:W.heap.size=p):SpIn (W.alloc (.cells #[bs [48],bs [50],bs [49],bs [52],bs [51],bs [53]] 43)) (some ⟨p,0,none⟩) 3 [([48],[50]),([49],[52]),([51],[53])] [0,1,3] [2,4,5]:=
 ⟨jeD [([48],[50]),([49],[52]),([51],[53])] hp,by omega,by omega,by decide,by rw [jad (jjE ex0 ex2 (by decide+kernel)),jad (jjE ex1 ex4 (by decide+kernel)),jad (jjE ex3 ex5 (by decide+kernel))];rfl,rfl,rfl,fun j hj=>by
   have h:j=0∨j=1∨j=2:=by omega
   rcases h with rfl|rfl|rfl
   ·exact ⟨ex0,ex2,⟨by decide+kernel,by decide+kernel,by decide+kernel⟩,⟨by decide+kernel,by decide+kernel,by decide+kernel⟩⟩
   ·exact ⟨ex1,ex4,⟨by decide+kernel,by decide+kernel,by decide+kernel⟩,⟨by decide+kernel,by decide+kernel,by decide+kernel⟩⟩
   ·exact ⟨ex3,ex5,⟨by decide+kernel,by decide+kernel,by decide+kernel⟩,⟨by decide+kernel,by decide+kernel,by decide+kernel⟩⟩⟩
theorem jsi {W:World} {p:Nat} (hp:W.heap.size=p):SpIn (W.alloc (.cells #[bs [49,48],bs [49,49],bs [49,51],bs [49,53]] 43)) (some ⟨p,0,none⟩) 2 [([49,48],[49,49]),([49,51],[49,53])] [10,13] [11,15]:=
 ⟨jeD [([49,48],[49,49]),([49,51],[49,53])] hp,by omega,by omega,by decide,by rw [jad (jjE jtZ jud (by decide+kernel)),jad (jjE jtY ju7 (by decide+kernel))];rfl,rfl,rfl,fun j hj=>by
   have h:j=0∨j=1:=by omega
   rcases h with rfl|rfl
   ·exact ⟨jtZ,jud,⟨by decide+kernel,by decide+kernel,by decide+kernel⟩,⟨by decide+kernel,by decide+kernel,by decide+kernel⟩⟩
   ·exact ⟨jtY,ju7,⟨by decide+kernel,by decide+kernel,by decide+kernel⟩,⟨by decide+kernel,by decide+kernel,by decide+kernel⟩⟩⟩
section
variable {w:World}
theorem jtj (hE:Env w):Calls Tryz.prog 23 #[bs [53,47,56], .agg #[bs [104,97,108,102,45,101,118,101,110],bs [49,47,52]]] w fun e w'=>e= .returned (.tuple #[bs [49,47,50], .int .i64 0])∧Below w.heap.size w w':=
 jew hE (by decide) (by decide) jup (by decide+kernel) juc (by decide+kernel) juq s12 t12.1 t12.2
theorem jt7 (hE:Env w):Calls Tryz.prog 23 #[bs [45,53,47,56], .agg #[bs [104,97,108,102,45,117,112],bs [49,47,52]]] w fun e w'=>e= .returned (.tuple #[bs [45,49,47,50], .int .i64 0])∧Below w.heap.size w w':=
 jew hE (by decide) (by decide) jtN (by decide+kernel) juc (by decide+kernel) jum juC ju3.1 ju3.2
theorem juf (hE:Env w):Calls Tryz.prog 33 #[.agg #[bs [49],bs [50]], .agg #[bs [45,49],bs [51]]] w fun e w'=>e= .returned (.tuple #[.agg #[bs [45,50],bs [54]], .int .i64 0])∧Below w.heap.size w w':=
 jqF hE (by decide) (by decide) (by decide) (by decide) ex1 ex2 ju6 ex3 (by rw [jad (jjE ex1 ex2 (by decide+kernel)),jad (jjE ju6 ex3 (by decide+kernel))];rfl) jtT jtJ sm2 s6 jtD.1 jtD.2.1 jtD.2.2
theorem jun (hE:Env w):Calls Tryz.prog 10 #[.int .i64 1000,bs [50,48],bs [51,54]] w fun e w'=>e= .returned (.tuple #[bs [49,50,53,48], .int .i64 0])∧Below w.heap.size w w':=
 jkg hE ⟨juu,by decide+kernel,by decide+kernel⟩ ⟨juv,by decide+kernel,by decide+kernel⟩ (by omega) (by omega) juh jtQ ju5.1 ju5.2 (by decide) (by decide)
theorem ap1 {A:Option Addr} {c:Nat} (h:Iv w A 3 [3,0,1]):Calls Tryz.prog 51 #[.int .i64 7, .slice A 3 c] w fun e w'=>∃b,e= .returned (.tuple #[.slice (some ⟨b,0,none⟩) 3 3, .int .i64 0])∧Iv w' (some ⟨b,0,none⟩) 3 [5,0,2]∧Below w.heap.size w w':=by
 refine (jhP (m:=2) (s:=4) rfl (by omega) h (fun j=> ?_) (by decide+kernel) (by decide+kernel) (by omega) (by omega) (by omega)).mono ?_
 ·rcases j with _ | _ | _|j <;> simp
 ·rintro e w' ⟨b,rfl,h1,_,h2⟩
  rw [apZ] at h1
  exact ⟨b,rfl,jsy (by intro z hz;simp at hz;rcases hz with rfl|rfl|rfl <;> exact ⟨by decide,by decide⟩) h1,h2⟩
theorem juo {A:Option Addr} {c:Nat} (hE:Env w) (h:Lv w A 2 exL):Calls Tryz.prog 52 #[.slice A 2 c] w fun e w'=>∃B d,e= .returned (.tuple #[.agg #[bs [119,104,101,97,116], .int .i64 1000, .slice B 2 d], .int .i64 0])∧Pv w' B 2 jld∧Below w.heap.size w w':=
 jsz (ks:=jod) hE ⟨h,by omega,by omega,jui,(by omega:1≤18),jus,exK,exM⟩ exO jtz (by decide) (by decide) rfl rfl jsG
end
end Go.Proofs.YtfoolepjkhgckaaGreatDoor
