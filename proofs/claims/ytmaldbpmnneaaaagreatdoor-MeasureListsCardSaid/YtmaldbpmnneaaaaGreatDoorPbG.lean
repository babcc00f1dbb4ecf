/- Parts. -/
import Derived.Test.YtmaldbpmnneaaaaGreatDoorMt
import Derived.Test.YtmaldbpmnneaaaaGreatDoorOg
set_option linter.all false
set_option maxRecDepth 100000
set_option maxHeartbeats 8000000
namespace Go.Proofs.YtmaldbpmnneaaaaGreatDoor
open Go Go.RowKit

theorem jqI {x:Rat} {l:List UInt8} (h:tq x=l) (h1:(Go.Lib.decDigits x.num.natAbs).length≤600) (h2:(Go.Lib.decDigits x.den).length≤600):IsNum l x:=⟨h.symm,h1,h2⟩
theorem jh9 {x:Rat} {l:List UInt8} (h:tq x=l∧(Go.Lib.decDigits x.num.natAbs).length≤600∧(Go.Lib.decDigits x.den).length≤600):IsNum l x:=jqI h.1 h.2.1 h.2.2
theorem jss:IsNum [53,47,56] (5/8):=jh9 (by decide+kernel)
theorem jrZ:IsNum [45,53,47,56] (-5/8):=jh9 (by decide+kernel)
theorem jsk:IsNum [49,47,52] (1/4):=jh9 (by decide+kernel)
theorem jqB:IsNum [49,47,50] (1/2):=jh9 (by decide+kernel)
theorem ex0:IsNum [48] 0:=jh9 (by decide+kernel)
theorem ex1:IsNum [49] 1:=jh9 (by decide+kernel)
theorem ex2:IsNum [50] 2:=jh9 (by decide+kernel)
theorem jsg:IsNum [45,49] (-1):=jh9 (by decide+kernel)
theorem ex3:IsNum [51] 3:=jh9 (by decide+kernel)
theorem ex4:IsNum [52] 4:=jh9 (by decide+kernel)
theorem ex5:IsNum [53] 5:=jh9 (by decide+kernel)
theorem jsi:IsNum [49,48] 10:=jh9 (by decide+kernel)
theorem jsb:IsNum [49,49] 11:=jh9 (by decide+kernel)
theorem jsl:IsNum [49,51] 13:=jh9 (by decide+kernel)
theorem jsn:IsNum [49,53] 15:=jh9 (by decide+kernel)
theorem jsx:IsNum [50,48] 20:=jh9 (by decide+kernel)
theorem jsH:IsNum [51,54] 36:=jh9 (by decide+kernel)
theorem jqZ {x:Rat} (h1: -9223372036854775808 < x.num) (h2:x.num < 9223372036854775808) (h3:x.den < 9223372036854775808):StrQ x:=StrQ.small h1 h2 h3
theorem jnd {x:Rat} (h: -9223372036854775808 < x.num∧x.num < 9223372036854775808∧x.den < 9223372036854775808):StrQ x:=jqZ h.1 h.2.1 h.2.2
theorem jsr:rnd [104,97,108,102,45,101,118,101,110] (5/8) (1/4)=1/2:=by decide+kernel
theorem jsI:rnd [104,97,108,102,45,117,112] (-5/8) (1/4)= -1/2:=by decide+kernel
theorem t12:jbB (1/2)=[49,47,50]∧jbq (1/2)=0:=by decide+kernel
theorem jsj:jbB (-1/2)=[45,49,47,50]∧jbq (-1/2)=0:=by decide+kernel
theorem s12:StrQ (1/2):=jnd (by decide+kernel)
theorem jsE:StrQ (-1/2):=jnd (by decide+kernel)
theorem jrM:jcA ((1:Rat)*(-1)) [1*3,2*(-1),2*3]= -2:=by decide+kernel
theorem jrX:jcD ((1:Rat)*(-1)) [1*3,2*(-1),2*3]=6:=by decide+kernel
theorem jrS:jlA (-2) 6=[45,50]∧jl9 (-2) 6=[54]∧jkX (-2) 6=0:=by decide+kernel
theorem sm2:StrQ (-2):=jnd (by decide+kernel)
theorem s6:StrQ 6:=jnd (by decide+kernel)
theorem jr0:jid (jfb [0,1,3] [2,4,5]) 3 3 0=some (0,2):=by decide+kernel
theorem js5:jaZ [10,13] [2,1] 2 / ((3:Int):Rat)=11:=by decide+kernel
theorem js6:jaZ [11,15] [2,1] 2 / ((3:Int):Rat)=37/3:=by decide+kernel
theorem jqk:jlA 11 (37/3)=[49,49]∧jl9 11 (37/3)=[51,55,47,51]∧jkX 11 (37/3)=0:=by decide+kernel
theorem s11:StrQ 11:=jnd (by decide+kernel)
theorem jsq:StrQ (37/3):=jnd (by decide+kernel)
theorem jsv:((1000:Int):Rat)*(100 - 20) / (100 - 36)=1250:=by decide+kernel
theorem jsm:jbB 1250=[49,50,53,48]∧jbq 1250=0:=by decide+kernel
theorem jrN:StrQ 1250:=jnd (by decide+kernel)
theorem apZ:(List.range 3).map (App.out 7 4 (fun j=> [3,0,1].getD j 0) (apL 7 4 [3,0,1] 2) (App.left 7 4 (fun j=> [3,0,1].getD j 0) 3).toNat)=[5,0,2]:=by decide+kernel
theorem jiu {a b:List UInt8} {x y:Rat} (ha:IsNum a x) (hb:IsNum b y) (h:x≤y):jau (a,b)=0:=by
 have h1:=jaK.2 ⟨x,ha⟩
 have h2:=jaK.2 ⟨y,hb⟩
 have e:ja9 chk [a,b]=0:=by rw [jad h1,jad h2];rfl
 unfold jau
 dsimp only
 rw [if_neg (by rw [e];simp),ha.numQ,hb.numQ,if_neg (Rat.not_lt.2 h)]
def exL:List Lay:=[⟨[119,104,101,97,116],600,[([97],[49])]⟩,⟨[119,104,101,97,116],400,[([97],[49,47,50]),([98],[49,47,50])]⟩]
theorem exC:jaJ exL=[([97],600),([97],200),([98],200)]:=by
 have h1:(1:Rat)*((600:Int):Rat)=600:=by decide+kernel
 have h2:(1/2:Rat)*((400:Int):Rat)=200:=by decide+kernel
 show jbl 600 [([97],[49])]++(jbl 400 [([97],[49,47,50]),([98],[49,47,50])]++[])=_
 unfold jbl
 simp only [List.map_cons,List.map_nil,ex1.numQ,jqB.numQ,h1,h2]
 rfl
theorem jsp:jaX [([97],[49])]=0:=by
 have h1:chk [49]=0:=jaK.2 ⟨_,ex1⟩
 have h2:((0:Rat)+1=1):=by decide+kernel
 have h3:¬((1:Rat)≤0):=by decide+kernel
 have h4:jb7 [97]=true:=by decide+kernel
 unfold jaX
 simp [jks,h1,h2,h3,h4,ex1.numQ,jfn]
theorem jso:jaX [([97],[49,47,50]),([98],[49,47,50])]=0:=by
 have h1:chk [49,47,50]=0:=jaK.2 ⟨_,jqB⟩
 have h2:((0:Rat)+1/2+1/2=1):=by decide+kernel
 have h3:¬((1/2:Rat)≤0):=by decide+kernel
 have h4:jb7 [97]=true:=by decide+kernel
 have h5:jb7 [98]=true:=by decide+kernel
 have h6:jkk [98] [97]=false:=by decide+kernel
 unfold jaX
 rw [if_neg (by simp),if_neg (by simp),jks,if_neg (by rw [h4];simp),if_neg (by simp [jfn]),if_neg (by simpa using h1),jqB.numQ,if_neg h3,jks,if_neg (by rw [h5];simp),if_neg (by simp [jfn,h6]),if_neg (by simpa using h1),jqB.numQ,if_neg h3,jks,if_pos h2]
theorem exK:ja9 jb1 exL=0:=by
 have h4:jb7 [119,104,101,97,116]=true:=by decide+kernel
 have e1:jb1 ⟨[119,104,101,97,116],600,[([97],[49])]⟩=0:=by
  unfold jb1;dsimp only;rw [if_neg (by rw [h4];simp),if_neg (by omega),jsp]
 have e2:jb1 ⟨[119,104,101,97,116],400,[([97],[49,47,50]),([98],[49,47,50])]⟩=0:=by
  unfold jb1;dsimp only;rw [if_neg (by rw [h4];simp),if_neg (by omega),jso]
 unfold exL
 rw [jad e1,jad e2];rfl
theorem exM:jmK (exL.getD 0 jbX).grain 0 exL=(1000,0):=by decide+kernel
theorem jsA:∀x∈exL,LayIn x:=by
 intro x hx
 simp only [exL,List.mem_cons,List.not_mem_nil,or_false] at hx
 rcases hx with rfl|rfl
 ·exact ⟨⟨by decide,by decide⟩,by decide,by decide⟩
 ·exact ⟨⟨by decide,by decide⟩,by decide,by decide⟩
theorem jsD:∀x∈exL,∀p∈x.shares,Sz 1 (numQ p.2):=by
 have h1:Sz 1 (1:Rat):=⟨by rw [Nat.pow_one,ja7];decide+kernel,by rw [Nat.pow_one,ja7];decide+kernel⟩
 have h2:Sz 1 (1/2:Rat):=⟨by rw [Nat.pow_one,ja7];decide+kernel,by rw [Nat.pow_one,ja7];decide+kernel⟩
 intro x hx
 simp only [exL,List.mem_cons,List.not_mem_nil,or_false] at hx
 rcases hx with rfl|rfl
 ·intro p hp
  simp only [List.mem_cons,List.not_mem_nil,or_false] at hp
  subst hp;dsimp only;rw [ex1.numQ];exact h1
 ·intro p hp
  simp only [List.mem_cons,List.not_mem_nil,or_false] at hp
  rcases hp with rfl|rfl
  ·dsimp only;rw [jqB.numQ];exact h2
  ·dsimp only;rw [jqB.numQ];exact h2
def jmL:List (List UInt8):=[[97],[98]]
def jjY:List (List UInt8×List UInt8):=[([97],[52,47,53]),([98],[49,47,53])]
theorem exO:Ordered jmL:=⟨by decide,by decide⟩
theorem jrP:∀x,x∈jmL↔jfl (jaJ exL) x=true:=by
 intro x
 rw [exC]
 simp [jmL,jfl]
 constructor
 ·rintro (rfl|rfl) <;> simp
 ·rintro (rfl|rfl) <;> simp
theorem jsz:tot (jaJ exL) [97] / ((1000:Int):Rat)=4/5:=by rw [exC];decide+kernel
theorem jsK:tot (jaJ exL) [98] / ((1000:Int):Rat)=1/5:=by rw [exC];decide+kernel
theorem jrG:jbB (4/5)=[52,47,53]∧jbq (4/5)=0∧jbB (1/5)=[49,47,53]∧jbq (1/5)=0:=by decide+kernel
theorem jr3:∀j,j < jmL.length→(jjY.getD j ([],[])).1=jmL.getD j []∧StrQ (tot (jaJ exL) (jmL.getD j []) / ((1000:Int):Rat))∧jbB (tot (jaJ exL) (jmL.getD j []) / ((1000:Int):Rat))=(jjY.getD j ([],[])).2∧jbq (tot (jaJ exL) (jmL.getD j []) / ((1000:Int):Rat))=0:=by
 intro j hj
 have h:j=0∨j=1:=by simp [jmL] at hj;omega
 rcases h with rfl|rfl
 ·refine ⟨rfl, ?_⟩
  show StrQ (tot (jaJ exL) [97] / ((1000:Int):Rat))∧jbB (tot (jaJ exL) [97] / ((1000:Int):Rat))=[52,47,53]∧jbq (tot (jaJ exL) [97] / ((1000:Int):Rat))=0
  rw [jsz]
  exact ⟨jnd (by decide+kernel),jrG.1,jrG.2.1⟩
 ·refine ⟨rfl, ?_⟩
  show StrQ (tot (jaJ exL) [98] / ((1000:Int):Rat))∧jbB (tot (jaJ exL) [98] / ((1000:Int):Rat))=[49,47,53]∧jbq (tot (jaJ exL) [98] / ((1000:Int):Rat))=0
  rw [jsK]
  exact ⟨jnd (by decide+kernel),jrG.2.2.1,jrG.2.2.2⟩

theorem je5 {W:World} {p:Nat} {t:TypeId} (ps:List (List UInt8×List UInt8)) (hp:W.heap.size=p):Pv (W.alloc (.cells (shs ps).toArray t)) (some ⟨p,0,none⟩) ps.length ps:=by
 subst hp
 refine ⟨rfl,fun _=>⟨_,0,rfl,by simp,fun j hj=> ?_⟩⟩
 have h (k:Nat) (hk:k < 2):(W.alloc (.cells (shs ps).toArray t)).cell? ⟨W.heap.size,0+j*2+k,none⟩=(shs [ps.getD j ([],[])])[k]? :=by
  rw [←jmd ps j k hj hk];simp
 exact ⟨h 0 (by omega),h 1 (by omega)⟩
theorem jgl {W:World} {p:Nat} {t:TypeId} (zs:List Int) (hz:∀z∈zs,R64 z) (hp:W.heap.size=p):Iv (W.alloc (.cells (jcN zs) t)) (some ⟨p,0,none⟩) zs.length zs:=by
 subst hp
 refine ⟨rfl,hz,fun _=>⟨_,0,rfl,by simp,fun j hj=> ?_⟩⟩
 have:=jbw hj
 simpa using this
theorem jr5 {W:World} {b:Nat} {t:TypeId} {zs:List Int} (hz:∀z∈zs,R64 z) (h:Blk W b t (jcN zs)):Iv W (some ⟨b,0,none⟩) zs.length zs:=by
 refine ⟨rfl,hz,fun _=>⟨_,0,rfl,h.lt,fun j hj=> ?_⟩⟩
 have:=jbw hj
 have e:W.heap[b]? =some (.cells (jcN zs) t (0,0)):=h
 simp [World.cell?,e,this]
theorem jqS {W:World} {p:Nat} {A B:Option Addr} {c d:Nat} (hp:W.heap.size=p) (h1:Pv W A 1 [([97],[49])]) (h2:Pv W B 2 [([97],[49,47,50]),([98],[49,47,50])]):
  Lv (W.alloc (.cells #[bs [119,104,101,97,116], .int .i64 600, .slice A 1 c,bs [119,104,101,97,116], .int .i64 400, .slice B 2 d] 57)) (some ⟨p,0,none⟩) 2 exL:=by
 subst hp
 refine ⟨rfl,fun _=>⟨_,0,rfl,by simp,fun j hj=> ?_⟩⟩
 have hb:=ja5 (Below.refl W.heap.size W) (.cells #[bs [119,104,101,97,116], .int .i64 600, .slice A 1 c,bs [119,104,101,97,116], .int .i64 400, .slice B 2 d] 57)
 have h:j=0∨j=1:=by omega
 rcases h with rfl|rfl
 ·exact ⟨⟨A,c,by simp [exL],by simp [exL],by simp [exL],h1.below hb⟩⟩
 ·exact ⟨⟨B,d,by simp [exL],by simp [exL],by simp [exL],h2.below hb⟩⟩
theorem jo7 {W:World} {p:Nat} (hp:W.heap.size=p):SpIn (W.alloc (.cells #[bs [48],bs [50],bs [49],bs [52],bs [51],bs [53]] 28)) (some ⟨p,0,none⟩) 3 [([48],[50]),([49],[52]),([51],[53])] [0,1,3] [2,4,5]:=
 ⟨je5 [([48],[50]),([49],[52]),([51],[53])] hp,by omega,by omega,by decide,by rw [jad (jiu ex0 ex2 (by decide+kernel)),jad (jiu ex1 ex4 (by decide+kernel)),jad (jiu ex3 ex5 (by decide+kernel))];rfl,rfl,rfl,fun j hj=>by
   have h:j=0∨j=1∨j=2:=by omega
   rcases h with rfl|rfl|rfl
   ·exact ⟨ex0,ex2,⟨by decide+kernel,by decide+kernel⟩,⟨by decide+kernel,by decide+kernel⟩⟩
   ·exact ⟨ex1,ex4,⟨by decide+kernel,by decide+kernel⟩,⟨by decide+kernel,by decide+kernel⟩⟩
   ·exact ⟨ex3,ex5,⟨by decide+kernel,by decide+kernel⟩,⟨by decide+kernel,by decide+kernel⟩⟩⟩
theorem jqh {W:World} {p:Nat} (hp:W.heap.size=p):SpIn (W.alloc (.cells #[bs [49,48],bs [49,49],bs [49,51],bs [49,53]] 28)) (some ⟨p,0,none⟩) 2 [([49,48],[49,49]),([49,51],[49,53])] [10,13] [11,15]:=
 ⟨je5 [([49,48],[49,49]),([49,51],[49,53])] hp,by omega,by omega,by decide,by rw [jad (jiu jsi jsb (by decide+kernel)),jad (jiu jsl jsn (by decide+kernel))];rfl,rfl,rfl,fun j hj=>by
   have h:j=0∨j=1:=by omega
   rcases h with rfl|rfl
   ·exact ⟨jsi,jsb,⟨by decide+kernel,by decide+kernel⟩,⟨by decide+kernel,by decide+kernel⟩⟩
   ·exact ⟨jsl,jsn,⟨by decide+kernel,by decide+kernel⟩,⟨by decide+kernel,by decide+kernel⟩⟩⟩
section
variable {w:World}
theorem jqM (hE:Env w):Calls Tryz.prog 20 #[bs [53,47,56], .agg #[bs [104,97,108,102,45,101,118,101,110],bs [49,47,52]]] w fun e w'=>e= .returned (.tuple #[bs [49,47,50], .int .i64 0])∧Below w.heap.size w w':=
 jjj hE (by decide) (by decide) jss (by decide+kernel) jsk (by decide+kernel) jsr s12 t12.1 t12.2
theorem jrm (hE:Env w):Calls Tryz.prog 20 #[bs [45,53,47,56], .agg #[bs [104,97,108,102,45,117,112],bs [49,47,52]]] w fun e w'=>e= .returned (.tuple #[bs [45,49,47,50], .int .i64 0])∧Below w.heap.size w w':=
 jjj hE (by decide) (by decide) jrZ (by decide+kernel) jsk (by decide+kernel) jsI jsE jsj.1 jsj.2
theorem jsJ (hE:Env w):Calls Tryz.prog 21 #[.agg #[bs [49],bs [50]], .agg #[bs [45,49],bs [51]]] w fun e w'=>e= .returned (.tuple #[.agg #[bs [45,50],bs [54]], .int .i64 0])∧Below w.heap.size w w':=
 jrs hE (by decide) (by decide) (by decide) (by decide) ex1 ex2 jsg ex3 (by rw [jad (jiu ex1 ex2 (by decide+kernel)),jad (jiu jsg ex3 (by decide+kernel))];rfl) jrM jrX sm2 s6 jrS.1 jrS.2.1 jrS.2.2
theorem jsC (hE:Env w):Calls Tryz.prog 25 #[.int .i64 1000,bs [50,48],bs [51,54]] w fun e w'=>e= .returned (.tuple #[bs [49,50,53,48], .int .i64 0])∧Below w.heap.size w w':=
 jre hE ⟨jsx,by decide+kernel,by decide+kernel⟩ ⟨jsH,by decide+kernel,by decide+kernel⟩ (by omega) (by omega) jsv jrN jsm.1 jsm.2 (by decide) (by decide)
theorem ap1 {A:Option Addr} {c:Nat} (h:Iv w A 3 [3,0,1]):Calls Tryz.prog 22 #[.int .i64 7, .slice A 3 c] w fun e w'=>∃b,e= .returned (.tuple #[.slice (some ⟨b,0,none⟩) 3 3, .int .i64 0])∧Iv w' (some ⟨b,0,none⟩) 3 [5,0,2]∧Below w.heap.size w w':=by
 refine (jhq (m:=2) (s:=4) rfl (by omega) h (fun j=> ?_) (by decide+kernel) (by decide+kernel) (by omega) (by omega) (by omega)).mono ?_
 ·rcases j with _ | _ | _|j <;> simp
 ·rintro e w' ⟨b,rfl,h1,_,h2⟩
  rw [apZ] at h1
  exact ⟨b,rfl,jr5 (by intro z hz;simp at hz;rcases hz with rfl|rfl|rfl <;> exact ⟨by decide,by decide⟩) h1,h2⟩
theorem jsy {A:Option Addr} {c:Nat} (hE:Env w) (h:Lv w A 2 exL):Calls Tryz.prog 23 #[.slice A 2 c] w fun e w'=>∃B d,e= .returned (.tuple #[.agg #[bs [119,104,101,97,116], .int .i64 1000, .slice B 2 d], .int .i64 0])∧Pv w' B 2 jjY∧Below w.heap.size w w':=
 jr8 (ks:=jmL) hE ⟨h,by omega,by omega,jsA,(by omega:1≤18),jsD,exK,exM⟩ exO jrP (by decide) (by decide) rfl rfl jr3
end
end Go.Proofs.YtmaldbpmnneaaaaGreatDoor
