/- Parts. -/
import Derived.Test.YtfagcpcikjlboaaGreatDoorYkG
import Derived.Test.YtfagcpcikjlboaaGreatDoorGbG
import Derived.Test.YtfagcpcikjlboaaGreatDoorTp
set_option linter.all false
set_option maxRecDepth 100000
set_option maxHeartbeats 8000000
namespace Go.Proofs.YtfagcpcikjlboaaGreatDoor
open Go Go.RowKit Go.Sort Go.Proofs.Tryz

theorem jBu (b o j:Nat):(⟨b,o,none⟩:Addr).add j=⟨b,o+j,none⟩:=by unfold Addr.add;split <;> simp_all
def hcs (ps:List Hr):List Value:=ps.flatMap fun p=> [.int .i64 p.1, .int .i64 p.2]
theorem jz5 (a b:List Hr):hcs (a++b)=hcs a++hcs b:=by simp [hcs]
theorem jB7 (a:List Hr):(hcs a).length=a.length*2:=by
 induction a with
 | nil=>rfl
 | cons q r ih=>rw [show hcs (q::r)=hcs [q]++hcs r from jz5 [q] r,List.length_append,ih];simp [hcs];omega
theorem jBe:∀(a:List Hr) (j k:Nat),j < a.length→k < 2→(hcs a)[j*2+k]? =(hcs [a.getD j (0,0)])[k]?
 | [],j,k,h,_=>absurd h (by simp)
 | q::r,0,k,_,hk=>by
   rw [show hcs (q::r)=hcs [q]++hcs r from jz5 [q] r,List.getElem?_append_left (by simp [hcs];omega)];simp
 | q::r,j+1,k,h,hk=>by
   rw [show hcs (q::r)=hcs [q]++hcs r from jz5 [q] r,List.getElem?_append_right (by simp [hcs];omega)];have e:(j+1)*2+k - (hcs [q]).length=j*2+k:=by simp [hcs];omega
   rw [e,jBe r j k (by simpa using h) hk];simp
theorem jC3 {a:List Hr}:∀u∈hcs a,u.oneCell'=true:=by
 intro u hu;simp only [hcs,List.mem_flatMap] at hu;obtain ⟨p,_,hp⟩:=hu;simp at hp;rcases hp with rfl|rfl <;> rfl
abbrev jzn (w:World) (base:Nat) (v:Value) (n:Nat) (ps:List Hr):Prop:=w.ownsRow base 31 2 v n (hcs ps)
theorem jzn.hv {w:World} {base n:Nat} {v:Value} {ps:List Hr} (h:jzn w base v n ps) (hl:ps.length=n) (h0:0 < n):∃A c,v= .slice A n c∧Hv6 w A n ps:=by
 rcases h.2 with ⟨rfl,h1⟩|⟨g,cap,cur,rfl,hb,hg,hnc,hcm,hcs',ht⟩
 ·omega
 ·refine ⟨some ⟨g,0,none⟩,cap,rfl,hl,fun _=>⟨g,0,rfl,(Array.getElem?_eq_some_iff.1 hg).1,fun j hj=> ?_⟩⟩;have hc:=World.ownsRow.cells h (g:=g) rfl
  have c (k:Nat) (hk:k < 2) (u:Value) (hu:(hcs [ps.getD j (0,0)])[k]? =some u):w.cell? ⟨g,0+j*2+k,none⟩=some u:=by
   have:=hc (j*2+k) u (by rw [jBe ps j k (by omega) hk,hu]);rw [jdP] at this;rw [Nat.zero_add];exact this
  exact ⟨c 0 (by omega) _ rfl,c 1 (by omega) _ rfl⟩
theorem jzn.below {w w':World} {base n:Nat} {v:Value} {ps:List Hr} (h:jzn w base v n ps) (hb:Below w.heap.size w w'):jzn w' base v n ps:=
 World.ownsRow.kept h (je8 hb none) (by cases hv:v.ownBlock <;> simp)
theorem jzn.nil (w:World) (base:Nat):jzn w base (.slice none 0 0) 0 []:=World.ownsRow_nil _ _ _ _
theorem jzn.slice {w:World} {base n:Nat} {v:Value} {ps:List Hr} (h:jzn w base v n ps):∃A c,v= .slice A n c:=by
 rcases h.2 with ⟨rfl,h1⟩|⟨g,cap,cur,rfl,_⟩
 ·exact ⟨none,0,by rw [h1]⟩
 ·exact ⟨_,_,rfl⟩
theorem jBF:(prog.info? 31).map (fun i=>(i.zero,i.size,i.bytes))=some (some (.agg #[.int .i64 0, .int .i64 0]),2,16):=by kernel_rfl
theorem jA2 {w:World} {base n m b o c:Nat} {v:Value} {ps xs:List Hr} (h:jzn w base v n ps) (hn:n≤100000) (hm:m≤100000) (hl:xs.length=m) (hb:base≤w.heap.size) (hx:Hrs w b o xs):
  ∃v' w',(Builtin.append_ #[22,22] 22 #[v, .slice (some ⟨b,o,none⟩) m c]).run prog w= .ok v' w'∧jzn w' base v' (n+m) (ps++xs)∧w.grownBy w' v.ownBlock∧(v'.ownBlock=v.ownBlock∨v'.ownBlock=some w.heap.size):=by
 obtain ⟨i,hi,hz0,hz1,hz2⟩:=info_parts jBF
 obtain ⟨v',w',hr,k1,k2,_,k3⟩:=run_append_own_at (P:=prog) w base 22 22 31 i _ 2 16 underlying22 hi hz0 hz1 hz2 rfl (by decide) v n (hcs ps) h ⟨b,o,none⟩ m c (hcs xs) (by rw [jB7,hl])
  (by
    intro j u hu;have hj:j < (hcs xs).length:=(List.getElem?_eq_some_iff.1 hu).1;rw [jB7] at hj;have hq:=hx (j / 2) (by omega);have e:j=j / 2*2+j % 2:=by omega
    rw [e,jBe xs (j / 2) (j % 2) (by omega) (by omega)] at hu;rw [e,jBu];obtain ⟨q1,q2⟩:=hq;generalize xs.getD (j / 2) (0,0)=q at hu q1 q2;rcases Nat.mod_two_eq_zero_or_one j with h0|h0
    ·rw [h0] at hu ⊢;have hu:some (Value.int .i64 q.1)=some u:=hu;rw [←hu,Nat.add_zero];exact q1
    ·rw [h0] at hu ⊢;have hu:some (Value.int .i64 q.2)=some u:=hu
     rw [←hu,←Nat.add_assoc];exact q2)
  jC3
  (by simp only [maxLen];omega) (by omega) hb
 exact ⟨v',w',hr,by rw [jzn,jz5];exact k1,k2,k3⟩
theorem jzc {ops:Array Oper} {rest:List Oper} {o:Oper} {a:Act} {Q:Exit→Act→World→Prop} {w:World} {base n m b f c:Nat} {v:Value} {ps xs:List Hr} (hg:o.guard=none) (s y:Operand)
  (ho:o.op= .call { callee:= .builtin .append,args:= #[s,y],argTypes:= #[22,22] }) (ht:o.type=22) (hs:a.eval s=v) (hy:a.eval y= .slice (some ⟨b,f,none⟩) m c)
  (h:jzn w base v n ps) (hn:n≤100000) (hm:m≤100000) (hl:xs.length=m) (hb:base≤w.heap.size) (hx:Hrs w b f xs)
  (hK:∀A' c' w',jzn w' base (.slice A' (n+m) c') (n+m) (ps++xs)→w.grownBy w' v.ownBlock→((Value.slice A' (n+m) c').ownBlock=v.ownBlock∨(Value.slice A' (n+m) c').ownBlock=some w.heap.size)→wpList prog ops Q rest (a.put o.dst (.slice A' (n+m) c')) w'):wpList prog ops Q (o::rest) a w:=by
 obtain ⟨v',w',hr,k1,k2,k3⟩:=jA2 h hn hm hl hb hx;refine wpList_plain hg fun K' hK'=> ?_
 obtain ⟨A',c',rfl⟩:=k1.slice;exact jiI s y ho hs hy (by rw [ht];exact hr) (hK' _ _ (hK A' c' w' k1 k2 k3))
end Go.Proofs.YtfagcpcikjlboaaGreatDoor
namespace Go.Proofs.YtfagcpcikjlboaaGreatDoor
open Go Go.RowKit Go.Proofs.Tryz

theorem jzk (hs:List Hr) (c:Clim):∀{i:Nat},i≤hs.length→jwE hs c i=(hs.take i).countP (fun h=>jhG h c)
 | 0,_=>by simp [jwE]
 | i+1,h=>by
   have hi:i < hs.length:=h;show jwE hs c i+(if jhG (hs.getD i (0,0)) c then 1 else 0)=_
   rw [jzk hs c (by omega),List.take_add_one,List.getElem?_eq_getElem hi,List.countP_append,List.getD_eq_getElem?_getD,List.getElem?_eq_getElem hi];simp [List.countP_cons]
theorem jAO (hs:List Hr) (c:Clim):jwE hs.reverse c hs.length=jwE hs c hs.length:=by
 have h1:=jzk hs c (Nat.le_refl _);have h2:=jzk hs.reverse c (i:=hs.length) (by simp);rw [h1,h2,List.take_of_length_le (by simp),List.take_of_length_le (Nat.le_refl _),List.countP_reverse]
theorem jAv (hs:List Hr) (h:Hr) (c:Clim):∀{i:Nat},i≤hs.length→jwE (hs++[h]) c i=jwE hs c i
 | 0,_=>rfl
 | i+1,hi=>by
   show jwE (hs++[h]) c i+_=jwE hs c i+_
   rw [jAv hs h c (by omega),List.getD_eq_getElem?_getD,List.getD_eq_getElem?_getD,List.getElem?_append_left (by omega)]
theorem jBv (hs:List Hr) (c:Clim) (i:Nat):jwE hs c i≤jwE hs c (i+1):=by
 show jwE hs c i≤jwE hs c i+_
 omega
theorem jyZ {x y z:Rat} {k:Nat} (h:x≤y):frq x z k≤frq y z k:=by
 have hk:(0:Rat)≤(k:Rat):=by
  have:((0:Nat):Rat)≤(k:Rat):=Rat.natCast_le_natCast.2 (Nat.zero_le _);exact this
 have:=Rat.mul_le_mul_of_nonneg_left h hk;unfold frq jws;split <;> split <;> grind
theorem jBI {x z:Rat} {k:Nat}:frq x z k=jws ((k:Rat)*x) z:=rfl
theorem jBK {k lo hi:Rat} (hk:0≤k) (h:lo≤hi):jAU (k*lo) [k*hi,k*lo,k*hi]=k*lo∧jAK (k*lo) [k*hi,k*lo,k*hi]=k*hi:=by
 have e:=Rat.mul_le_mul_of_nonneg_left h hk;obtain ⟨p,hp⟩:∃p,k*lo=p:=⟨_,rfl⟩;obtain ⟨q,hq⟩:∃p,k*hi=p:=⟨_,rfl⟩;rw [hp,hq] at e ⊢;have a1:¬Rq.cmpQ q p < 0:=fun e2=>Rat.not_lt.2 e (Rq.cmp_neg.1 e2)
 have a2:¬Rq.cmpQ p p < 0:=fun e2=>Rat.lt_irrefl (Rq.cmp_neg.1 e2)
 have a3:¬Rq.cmpQ p q > 0:=fun e2=>Rat.not_lt.2 e (Rq.cmp_pos.1 e2)
 have a4:¬Rq.cmpQ q q > 0:=fun e2=>Rat.lt_irrefl (Rq.cmp_pos.1 e2)
 constructor
 ·simp only [jAU,if_neg a1,if_neg a2]
 ·by_cases e2:Rq.cmpQ q p > 0
  ·simp only [jAK,if_pos e2,if_neg a3,if_neg a4]
  ·have e3:q=p:=Rat.le_antisymm (Rat.not_lt.1 fun h=>e2 (Rq.cmp_pos.2 h)) e;rw [e3] at a3;simp only [jAK,e3,if_neg a3]

section
variable {hs:List Hr} {c:Clim} {a b d:List UInt8}
theorem jz2 {x y:Rat} (hx:IsNum a x) (hy:IsNum b y) (h:x≤y):jwt (a,b)=0:=by
 have h1:chk a=0:=jjL.2 ⟨_,hx⟩;have h2:chk b=0:=jjL.2 ⟨_,hy⟩;unfold jwt;dsimp only;have e:jar chk [a,b]=0:=by simp [jar,h1,h2]
 rw [e,if_neg (by decide),if_neg (by rw [hx.numQ,hy.numQ];exact Rat.not_lt.2 h)]
theorem AirOk.airE (h:AirOk hs c a b d):airE hs c a b d=0:=by
 rw [jyf,if_pos h.hrs,if_pos h.clm,if_pos (jz2 h.na h.nb h.ord),if_neg (Rat.not_lt.2 h.low),if_pos (jjL.2 ⟨_,h.nd⟩),if_neg (Rat.not_le.2 h.pos)]
theorem jyW:jkg hs=0↔hs.length≤1000∧∀h∈hs,jl3 h=true:=by
 unfold jkg;by_cases h1:1000 < hs.length
 ·rw [if_pos h1];exact ⟨fun e=>absurd e (by decide),fun e=>by omega⟩
 ·rw [if_neg h1];by_cases h2:hs.any (fun h=> !jl3 h)=true
  ·rw [if_pos h2];refine ⟨fun e=>absurd e (by decide),fun e=> ?_⟩;obtain ⟨x,hx,hn⟩:=List.any_eq_true.1 h2;rw [e.2 x hx] at hn;cases hn
  ·rw [if_neg h2];refine ⟨fun _=>⟨by omega,fun x hx=> ?_⟩,fun _=>rfl⟩;cases e:jl3 x
   ·exact absurd (List.any_eq_true.2 ⟨x,hx,by rw [e];rfl⟩) h2
   ·rfl
theorem AirOk.turned (h:AirOk hs c a b d):AirOk hs.reverse c a b d:=by
 have h1:=jyW.1 h.hrs;exact ⟨jyW.2 ⟨by rw [List.length_reverse];exact h1.1,fun x hx=>h1.2 x (List.mem_reverse.1 hx)⟩,h.clm,h.na,h.nb,h.nd,h.ord,h.low,h.pos⟩
theorem AirOk.more {p:Hr} {a' b':List UInt8} {x y:Rat} (h:AirOk hs c a b d) (hl:hs.length < 1000) (hp:jl3 p=true) (hx:IsNum a' x) (hy:IsNum b' y) (h0:0≤x) (hxy:x≤y):AirOk (hs++[p]) c a' b' d:=by
 have h1:=jyW.1 h.hrs;refine ⟨jyW.2 ⟨by rw [List.length_append,List.length_singleton];omega,fun z hz=> ?_⟩,h.clm,by rw [hx.numQ];exact hx,by rw [hy.numQ];exact hy,h.nd,by rw [hx.numQ,hy.numQ];exact hxy,by rw [hx.numQ];exact h0,h.pos⟩;rcases List.mem_append.1 hz with e|e
 ·exact h1.2 z e
 ·rw [List.mem_singleton.1 e];exact hp
end
section
variable {hs:List Hr} {c:Clim} {x y z:Rat} {n:Nat}
theorem jzR (hn:hs.length=n) (h:0 < n):(frT hs c x y z n).getD (n - 1) ([],[])=(tq (frq x z (jwE hs c n)),tq (frq y z (jwE hs c n))):=by
 unfold frT;rw [List.getD_eq_getElem?_getD,List.getElem?_map,show (frL hs c x y z n)[n-1]? =some (frP hs c x y z (n - 1)) from by unfold frL;rw [List.getElem?_map,List.getElem?_range (by omega)];rfl];simp only [Option.map_some,Option.getD_some,frP];rw [show n - 1+1=n by omega]
theorem jAA {i:Nat} (h:i < n):(frT hs c x y z n).getD i ([],[])=(tq (frq x z (jwE hs c (i+1))),tq (frq y z (jwE hs c (i+1)))):=by
 unfold frT;rw [List.getD_eq_getElem?_getD,List.getElem?_map,show (frL hs c x y z n)[i]? =some (frP hs c x y z i) from by unfold frL;rw [List.getElem?_map,List.getElem?_range h];rfl];rfl
theorem jAE (hn:hs.length=n) (h:0 < n):(frT hs.reverse c x y z n).getD (n - 1) ([],[])=(frT hs c x y z n).getD (n - 1) ([],[]):=by
 rw [jzR (by rw [List.length_reverse,hn]) h,jzR hn h];subst hn;rw [jAO]
theorem jAh {k:Nat} (h:k≤1000):Dz 4 ((k:Nat):Rat):=⟨by show ((k:Nat):Rat).num.natAbs < 10^4;simp;omega,by show ((k:Nat):Rat).den < 10^4;simp⟩
theorem jCg {k:Nat} (h:k≤1000) (dx:Dz 30 x) (dz:Dz 30 z):Dz 34 (frq x z k):=by
 unfold frq jws;split
 ·exact dz.mono (by omega)
 ·exact ((jAh h).mul dx).mono (by omega)
theorem jAu {k m:Nat} (hx:0≤x) (h:k≤m):frq x z k≤frq x z m:=by
 have h1:(k:Rat)≤(m:Rat):=Rat.natCast_le_natCast.2 h;have:=Rat.mul_le_mul_of_nonneg_right h1 hx;unfold frq jws;split <;> split <;> grind
end

abbrev Cw:Clim:=⟨0,200,0,70⟩
section
variable {w:World} {A:Option Addr} {n cap:Nat} {hs:List Hr} {a b d:List UInt8}
set_option maxHeartbeats 16000000 in
theorem jAL (hE:Env w) (h:Hv6 w A n hs) (ho:n=0∨20 < n∨12 < a.length∨12 < b.length∨12 < d.length∨airE hs Cw a b d≠0):
  Calls prog 3 #[.slice A n cap,sp a b,bs d] w fun e w'=>e= .returned (.bool true)∧Below w.heap.size w w':=by
 have HX:=qh (fun W (hb:Below w.heap.size w W)=>jzW (hE.below hb));by_cases gz:n=0
 ·subst gz;clear hE h ho;go_enter func3,ntmps3;go_wp2_with (first|(go_at_call 5;(with_reducible refine mo0 (HX.o _ bi) fun w9 hb9 hc9 hf9 _=> ?_)))
  go_ret;exact ⟨rfl,bi⟩
 have qz:((n:Int)==0)=false:=by rw [beq_eq_false_iff_ne];omega
 by_cases g0:20 < n
 ·have q0:decide ((20:Int) < (n:Int))=true:=by rw [decide_eq_true_iff];omega
  clear hE h ho g0 gz;go_enter func3,ntmps3;go_wp2_with (first|(go_at_call 5;(with_reducible refine mo0 (HX.o _ bi) fun w9 hb9 hc9 hf9 _=> ?_)))
  go_ret;exact ⟨rfl,bi⟩
 have q0:decide ((20:Int) < (n:Int))=false:=by rw [decide_eq_false_iff_not];omega
 obtain ⟨la,hla⟩:∃l,a.length=l:=⟨_,rfl⟩;obtain ⟨lb,hlb⟩:∃l,b.length=l:=⟨_,rfl⟩;obtain ⟨ld,hld⟩:∃l,d.length=l:=⟨_,rfl⟩;by_cases g1:12 < la
 ·have q1:decide ((12:Int) < (la:Int))=true:=by rw [decide_eq_true_iff];omega
  clear hE h ho g0 g1 gz;go_enter func3,ntmps3;go_wp2_with (first|(go_at_call 5;(with_reducible refine mo0 (HX.o _ bi) fun w9 hb9 hc9 hf9 _=> ?_)))
  go_ret;exact ⟨rfl,bi⟩
 have q1:decide ((12:Int) < (la:Int))=false:=by rw [decide_eq_false_iff_not];omega
 by_cases g2:12 < lb
 ·have q2:decide ((12:Int) < (lb:Int))=true:=by rw [decide_eq_true_iff];omega
  clear hE h ho g0 g1 g2 gz;go_enter func3,ntmps3;go_wp2_with (first|(go_at_call 5;(with_reducible refine mo0 (HX.o _ bi) fun w9 hb9 hc9 hf9 _=> ?_)))
  go_ret;exact ⟨rfl,bi⟩
 have q2:decide ((12:Int) < (lb:Int))=false:=by rw [decide_eq_false_iff_not];omega
 by_cases g3:12 < ld
 ·have q3:decide ((12:Int) < (ld:Int))=true:=by rw [decide_eq_true_iff];omega
  clear hE h ho g0 g1 g2 g3 gz;go_enter func3,ntmps3;go_wp2_with (first|(go_at_call 5;(with_reducible refine mo0 (HX.o _ bi) fun w9 hb9 hc9 hf9 _=> ?_)))
  go_ret;exact ⟨rfl,bi⟩
 have q3:decide ((12:Int) < (ld:Int))=false:=by rw [decide_eq_false_iff_not];omega
 obtain ⟨K,hK⟩:∃K,airE hs Cw a b d=K:=⟨_,rfl⟩;have HAE:=qh (fun W (hb:Below w.heap.size w W)=>jy6 (cap:=cap) (h.below hb) (by omega) (by omega) (by omega) (by omega) hK)
 have h0:K≠0:=by
  rcases ho with h|h|h|h|h|h
  ·exact absurd h gz
  ·exact absurd h g0
  ·omega
  ·omega
  ·omega
  ·rw [←hK];exact h
 have q4:(K != 0)=true:=by rw [bne_iff_ne];exact h0
 clear hE h ho g0 g1 g2 g3 hK h0 gz;go_enter func3,ntmps3;go_wp2_with (first|(go_at_call 5;(with_reducible refine mo0 (HX.o _ bi) fun w9 hb9 hc9 hf9 _=> ?_))|(go_at_call 4;(with_reducible refine mo0 (HAE.o _ bi) fun w1 hb1 hc1 hf1 _=> ?_)))
 go_ret;exact ⟨rfl,bi⟩
end

theorem jyF {o:Oper} {a:Act} {K:Act→World→Prop} {Q:Exit→Act→World→Prop} {w:World} {base n m b f c:Nat} {v:Value} {ps xs:List Hr} (s y:Operand)
  (ho:o.op= .call { callee:= .builtin .append,args:= #[s,y],argTypes:= #[22,22] }) (ht:o.type=22) (hs:a.eval s=v) (hy:a.eval y= .slice (some ⟨b,f,none⟩) m c)
  (h:jzn w base v n ps) (hn:n≤100000) (hm:m≤100000) (hl:xs.length=m) (hb:base≤w.heap.size) (hx:Hrs w b f xs)
  (hK:∀A' c' w',jzn w' base (.slice A' (n+m) c') (n+m) (ps++xs)→w.grownBy w' v.ownBlock→K (a.put o.dst (.slice A' (n+m) c')) w'):o.wp prog a w K Q:=by
 obtain ⟨v',w',hr,k1,k2,k3⟩:=jA2 h hn hm hl hb hx;obtain ⟨A',c',rfl⟩:=k1.slice;exact jiI s y ho hs hy (by rw [ht];exact hr) (hK A' c' w' k1 k2)
theorem jyG {o:Oper} {a:Act} {K:Act→World→Prop} {Q:Exit→Act→World→Prop} {w:World} {base m b f c:Nat} {v:Value} {xs:List Hr} (s y:Operand)
  (ho:o.op= .call { callee:= .builtin .append,args:= #[s,y],argTypes:= #[22,22] }) (ht:o.type=22) (hs:a.eval s=v) (hy:a.eval y= .slice (some ⟨b,f,none⟩) m c)
  (h:jzn w base v 0 []) (hm:m≤100000) (hl:xs.length=m) (hb:base≤w.heap.size) (hx:Hrs w b f xs)
  (hK:∀A' c' w',jzn w' base (.slice A' m c') m xs→w.grownBy w' v.ownBlock→K (a.put o.dst (.slice A' m c')) w'):o.wp prog a w K Q:=
 jyF s y ho ht hs hy h (Nat.zero_le _) hm hl hb hx fun A' c' w' k1 k2=>by
  rw [Nat.zero_add];rw [Nat.zero_add,List.nil_append] at k1;exact hK A' c' w' k1 k2
theorem jzn.made (w:World) {base:Nat} (hb:base≤w.heap.size):jzn (w.alloc (.cells #[] 31)) base (.slice (some ⟨w.heap.size,0,none⟩) 0 0) 0 []:=
 ⟨rfl, .inr ⟨w.heap.size,0, #[],rfl,hb,Array.getElem?_push_size,Nat.le_refl _,Nat.zero_le _,rfl,rfl⟩⟩
theorem jzA (w:World) (p:Hr) (T:TypeId):Hrs (w.alloc (.cells #[.int .i64 p.1, .int .i64 p.2] T)) w.heap.size 0 [p]:=fun j hj=>by
 obtain rfl:j=0:=by simpa using hj
 constructor <;> simp [go_sem]
theorem jyY {w w':World} {row:Option Nat} {b o:Nat} {hs:List Hr} (hg:w.grownBy w' row) (hb:b < w.heap.size) (hne:some b≠row) (h:Hrs w b o hs):Hrs w' b o hs:=fun j hj=>by
 have e:=hg.block b hb hne;have h2:=h j hj;constructor
 ·simp only [World.cell?,e] at h2 ⊢;exact h2.1
 ·simp only [World.cell?,e] at h2 ⊢;exact h2.2
theorem jlU {x y:Rat} (h:y≤x):decide (Rq.cmpQ x y < 0)=false∧decide (0≤Rq.cmpQ x y)=true:=by
 have:¬Rq.cmpQ x y < 0:=fun e=>absurd (Rq.cmp_neg.1 e) (Rat.not_lt.2 h)
 exact ⟨decide_eq_false this,decide_eq_true (Int.not_lt.1 this)⟩
theorem jzb {x z:Rat} {k m:Nat} (h:k≤1000) (dx:Dz m x) (dz:Dz 30 z) (hm:30≤m):Dz (m+4) (frq x z k):=by
 unfold frq jws;split
 ·exact dz.mono (by omega)
 ·exact ((jAh h).mul dx).mono (by omega)
section
variable {hs:List Hr} {a b d:List UInt8} {n:Nat}
structure FastI (hs:List Hr) (a b d:List UInt8) (n:Nat):Prop where
 ok:AirOk hs Cw a b d
 len:hs.length=n
 n1:1≤n
 n20:n≤20
 dx:Dz 30 (numQ a)
 dy:Dz 30 (numQ b)
 dz:Dz 30 (numQ d)
theorem jyX {x:Rat} (h:Dz 30 x):Dz 32 (x+1/3):=(h.add (show Dz 1 (1/3:Rat) from ⟨by decide+kernel,by decide+kernel⟩)).mono (by omega)
abbrev hs1 (hs:List Hr):List Hr:=hs++[(50,50)]
noncomputable abbrev F3 (hs:List Hr) (a b d:List UInt8) (n:Nat):List (List UInt8×List UInt8):=frT (hs1 hs) Cw (numQ a+1/3) (numQ b+1/3) (numQ d) (n+1)
theorem FastI.more (h:FastI hs a b d n):AirOk (hs1 hs) Cw (tq (numQ a+1/3)) (tq (numQ b+1/3)) d∧numQ (tq (numQ a+1/3))=numQ a+1/3∧numQ (tq (numQ b+1/3))=numQ b+1/3∧(tq (numQ a+1/3)).length≤100∧(tq (numQ b+1/3)).length≤100∧(hs1 hs).length=n+1∧
  (∀k,k≤n+1→Wr (frq (numQ a+1/3) (numQ d) k)∧Wr (frq (numQ b+1/3) (numQ d) k)):=by
 have hl:=h.len;have h20:=h.n20;have h1:=jyX h.dx;have h2:=jyX h.dy;obtain ⟨_,_,i1⟩:=jp0 h1 (by omega) (by omega);obtain ⟨_,_,i2⟩:=jp0 h2 (by omega) (by omega);have l1:=jur h1 (by omega);have l2:=jur h2 (by omega);have lo:=h.ok.low;have or:=h.ok.ord;refine ⟨h.ok.more (by omega) (by decide) i1 i2 (by grind) (by grind),i1.numQ,i2.numQ,by omega,by omega,by simp [hl],fun k hk=>⟨(jzb (by omega) h1 h.dz (by omega)).wr (by omega) (by omega),(jzb (by omega) h2 h.dz (by omega)).wr (by omega) (by omega)⟩⟩
theorem jzo {k m:Nat} {x y:Rat} (h:y≤x) (dx:Dz k x) (dy:Dz m y) (hk:0 < k) (hm:0 < m) (hk2:k≤9000) (hm2:m≤9000):∃g:Int,decide (g < 0)=false∧decide (0≤g)=true∧∀W,Calls prog 13 #[bs (tq x),bs (tq y)] W fun e w'=>e= .returned (.int .i64 g)∧Below W.heap.size W w':=
 ⟨Rq.cmpQ x y,(jlU h).1,(jlU h).2,fun W=>jko (w:=W) rfl dx dy hk hm hk2 hm2⟩
theorem jzy {k:Nat} {x y:Rat} (h:x≤y) (dx:Dz k x) (dy:Dz k y) (hk:0 < k) (hk2:k≤600):∀W,Calls prog 10 #[sp (tq x) (tq y)] W fun e w'=>e= .returned (.int .i64 0)∧Below W.heap.size W w':=fun W=>by
 have l1:=jur dx hk;have l2:=jur dy hk;exact jxR (by omega) (by omega) (jzG dx dy hk hk2 h)
theorem FastI.round (h:FastI hs a b d n) {k:Nat} (hk:k < n):∃t1 t2 u1 u2:List UInt8,∃g1 g2:Int,(frT hs Cw (numQ a) (numQ b) (numQ d) n).getD k ([],[])=(t1,t2)∧(F3 hs a b d n).getD k ([],[])=(u1,u2)∧decide (g1 < 0)=false∧decide (g2 < 0)=false∧
  (∀W,Calls prog 10 #[sp t1 t2] W fun e w'=>e= .returned (.int .i64 0)∧Below W.heap.size W w')∧
  (∀W,Calls prog 10 #[sp u1 u2] W fun e w'=>e= .returned (.int .i64 0)∧Below W.heap.size W w')∧
  (∀W,Calls prog 13 #[bs u1,bs t1] W fun e w'=>e= .returned (.int .i64 g1)∧Below W.heap.size W w')∧
  (∀W,Calls prog 13 #[bs u2,bs t2] W fun e w'=>e= .returned (.int .i64 g2)∧Below W.heap.size W w'):=by
 have hl:=h.len;have h20:=h.n20;have e1:=jAA (hs:=hs) (c:=Cw) (x:=numQ a) (y:=numQ b) (z:=numQ d) hk;have e2:=jAA (hs:=hs1 hs) (c:=Cw) (x:=numQ a+1/3) (y:=numQ b+1/3) (z:=numQ d) (show k < n+1 by omega);rw [jAv hs (50,50) Cw (show k+1≤hs.length by omega)] at e2;have hc:=jwS hs Cw (k+1);generalize jwE hs Cw (k+1)=C at e1 e2 hc;have d1:=jzb (k:=C) (by omega) h.dx h.dz (by omega);have d2:=jzb (k:=C) (by omega) h.dy h.dz (by omega);have d3:=jzb (k:=C) (by omega) (jyX h.dx) h.dz (by omega);have d4:=jzb (k:=C) (by omega) (jyX h.dy) h.dz (by omega);have or:=h.ok.ord;obtain ⟨g1,p1,_,c1⟩:=jzo (jyZ (z:=numQ d) (k:=C) (show numQ a≤numQ a+1/3 by grind)) d3 d1 (by omega) (by omega) (by omega) (by omega);obtain ⟨g2,p2,_,c2⟩:=jzo (jyZ (z:=numQ d) (k:=C) (show numQ b≤numQ b+1/3 by grind)) d4 d2 (by omega) (by omega) (by omega) (by omega);exact ⟨_,_,_,_,g1,g2,e1,e2,p1,p2,jzy (jyZ or) d1 d2 (by omega) (by omega),jzy (jyZ (show numQ a+1/3≤numQ b+1/3 by grind)) d3 d4 (by omega) (by omega),c1,c2⟩
theorem FastI.last (h:FastI hs a b d n):∃t1 t2 u1 u2:List UInt8,∃g1 g2:Int,(F3 hs a b d n).getD (n - 1) ([],[])=(t1,t2)∧(F3 hs a b d n).getD n ([],[])=(u1,u2)∧decide (0≤g1)=true∧decide (0≤g2)=true∧
  (∀W,Calls prog 10 #[sp u1 u2] W fun e w'=>e= .returned (.int .i64 0)∧Below W.heap.size W w')∧
  (∀W,Calls prog 13 #[bs u1,bs t1] W fun e w'=>e= .returned (.int .i64 g1)∧Below W.heap.size W w')∧
  (∀W,Calls prog 13 #[bs u2,bs t2] W fun e w'=>e= .returned (.int .i64 g2)∧Below W.heap.size W w'):=by
 have hl:=h.len;have h20:=h.n20;have h1:=h.n1;have e1:=jAA (hs:=hs1 hs) (c:=Cw) (x:=numQ a+1/3) (y:=numQ b+1/3) (z:=numQ d) (show n - 1 < n+1 by omega);have e2:=jAA (hs:=hs1 hs) (c:=Cw) (x:=numQ a+1/3) (y:=numQ b+1/3) (z:=numQ d) (show n < n+1 by omega);rw [show n - 1+1=n by omega] at e1;have hc1:=jwS (hs1 hs) Cw n;have hc2:=jwS (hs1 hs) Cw (n+1);have hcm:=jBv (hs1 hs) Cw n;generalize jwE (hs1 hs) Cw n=C at e1 hc1 hcm;generalize jwE (hs1 hs) Cw (n+1)=E at e2 hc2 hcm;have d1:=jzb (k:=C) (by omega) (jyX h.dx) h.dz (by omega);have d2:=jzb (k:=C) (by omega) (jyX h.dy) h.dz (by omega);have d3:=jzb (k:=E) (by omega) (jyX h.dx) h.dz (by omega);have d4:=jzb (k:=E) (by omega) (jyX h.dy) h.dz (by omega);have or:=h.ok.ord;have lo:=h.ok.low;obtain ⟨g1,_,p1,c1⟩:=jzo (jAu (z:=numQ d) (show 0≤numQ a+1/3 by grind) hcm) d3 d1 (by omega) (by omega) (by omega) (by omega);obtain ⟨g2,_,p2,c2⟩:=jzo (jAu (z:=numQ d) (show 0≤numQ b+1/3 by grind) hcm) d4 d2 (by omega) (by omega) (by omega) (by omega);exact ⟨_,_,_,_,g1,g2,e1,e2,p1,p2,jzy (jyZ (show numQ a+1/3≤numQ b+1/3 by grind)) d3 d4 (by omega) (by omega),c1,c2⟩
end
end Go.Proofs.YtfagcpcikjlboaaGreatDoor
