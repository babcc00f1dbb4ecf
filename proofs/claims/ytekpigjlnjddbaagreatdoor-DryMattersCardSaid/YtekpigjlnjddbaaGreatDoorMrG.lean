/- Parts. -/
import Derived.Test.YtekpigjlnjddbaaGreatDoorMoG
set_option linter.all false
set_option maxRecDepth 100000
set_option maxHeartbeats 8000000
namespace Go.Proofs.YtekpigjlnjddbaaGreatDoor
open Go Go.RowKit

structure FAt (w:World) (b o:Nat) (x:Rat):Prop where
 at_:∃s A n c t B m d,w.cell? ⟨b,o,none⟩=some (.int .i64 s)∧w.cell? ⟨b,o+1,none⟩=some (.slice A n c)∧w.cell? ⟨b,o+2,none⟩=some (.int .i64 t)∧w.cell? ⟨b,o+3,none⟩=some (.slice B m d)∧RepF w s A n c t B m d x
theorem FAt.below {w w':World} {b o:Nat} {x:Rat} (h:FAt w b o x) (hb:Below w.heap.size w w'):FAt w' b o x:=by
 obtain ⟨s,A,n,c,t,B,m,d,h1,h2,h3,h4,h5⟩:=h.at_;exact ⟨⟨s,A,n,c,t,B,m,d,ja9 hb h1,ja9 hb h2,ja9 hb h3,ja9 hb h4,h5.below hb⟩⟩
structure Qv (w:World) (A:Option Addr) (n:Nat) (qs:List Rat):Prop where
 len:qs.length=n
 at_:0 < n→∃b o,A=some ⟨b,o,none⟩∧b < w.heap.size∧∀j,j < n→FAt w b (o+j*4) (qs.getD j 0)
theorem Qv.below {w w':World} {A:Option Addr} {n:Nat} {qs:List Rat} (h:Qv w A n qs) (hb:Below w.heap.size w w'):Qv w' A n qs:=
 ⟨h.len,fun hn=>by
   obtain ⟨b,o,e,h1,h2⟩:=h.at_ hn
   exact ⟨b,o,e,Nat.lt_of_lt_of_le h1 hb.size,fun j hj=>(h2 j hj).below hb⟩⟩
section
variable {w:World} {A:Option Addr} {n c p:Nat} {qs:List Rat}
end


structure SmallQ (x:Rat):Prop where
 lo: -9223372036854775808 < x.num
 hi:x.num < 9223372036854775808
 den:x.den < 9223372036854775808
theorem Rep.is_small {w:World} {s z:Int} {A:Option Addr} {n c:Nat} (h:Rep w s A n c z) (h0: -9223372036854775808 < z) (h1:z < 9223372036854775808):s=z∧A=none∧n=0∧c=0:=by
 cases h with
 | small _ _ _=>exact ⟨rfl,rfl,rfl,rfl⟩
 | plus _ _ _ ds h=>have:=h.big;omega
 | minus _ _ _ ds h=>have:=h.big;omega
abbrev fq (x:Rat):Value:=fv x.num none 0 0 ((x.den:Nat):Int) none 0 0
theorem SmallQ.rep {x:Rat} (h:SmallQ x) (w:World):RepF w x.num none 0 0 ((x.den:Nat):Int) none 0 0 x:=
 ⟨.small _ (by have:=h.lo;omega) h.hi, .small _ (by omega) (by have:=h.den;omega)⟩
theorem SmallQ.post {x:Rat} (hs:SmallQ x) {w w':World} {e:Ending} (h:jaa x w e w'):e= .returned (fq x)∧Below w.heap.size w w':=by
 obtain ⟨s,A,n,c,t,B,m,d,rfl,⟨h1,h2⟩,hb⟩:=h;obtain ⟨rfl,rfl,rfl,rfl⟩:=h1.is_small hs.lo hs.hi;obtain ⟨rfl,rfl,rfl,rfl⟩:=h2.is_small (by omega) (by have:=hs.den;omega);exact ⟨rfl,hb⟩
theorem SmallQ.sz {x:Rat} (h:SmallQ x):Sz 1 x:=⟨by rw [Nat.pow_one,ja3];have:=h.lo;have:=h.hi;omega,by rw [Nat.pow_one,ja3];have:=h.den;omega⟩
theorem SmallQ.str {x:Rat} (h:SmallQ x):StrQ x:=StrQ.small h.lo h.hi h.den
theorem jk6 (g j:Nat):(⟨g,0,none⟩:Addr).add j=⟨g,j,none⟩:=by unfold Addr.add;split <;> simp_all
theorem jeZ {w w':World} (h:Below w.heap.size w w'):w.grownBy w' none:=⟨h.os,h.tape,h.output,h.size,fun k hk _=>h.block k hk⟩
theorem jab {w w':World} {base:Nat} {row:Option Nat} (h:w.grownBy w' row) (hb:base≤w.heap.size) (hr:∀k,row=some k→base≤k):Below base w w':=
 ⟨h.os,h.tape,h.output,h.size,fun k hk=>h.block k (Nat.lt_of_lt_of_le hk hb) (fun e=>by have:=hr k e.symm;omega)⟩
theorem jq1:(Tryz.prog.info? 82).map (fun i=>(i.zero,i.size,i.bytes))=some (some (.agg #[.int .i64 0, .slice none 0 0, .int .i64 0, .slice none 0 0]),4,64):=by kernel_rfl
theorem jdG {P:Program} {o:Oper} {a:Act} {K:Act→World→Prop} {Q:Exit→Act→World→Prop} {w w':World} {v z v':Value} {t:TypeId} (s y:Operand)
  (ho:o.op= .call { callee:= .builtin .append,args:= #[s,y],argTypes:= #[t,t] }) (hs:a.eval s=v) (hy:a.eval y=z)
  (hr:(Builtin.append_ #[t,t] o.type #[v,z]).run P w= .ok v' w') (hK:K (a.put o.dst v') w'):o.wp P a w K Q:=by
 unfold Oper.wp execOp;simp only [ho,resolve,invoke,builtin,Sem.run_bind,Sem.run_pure,Result.andThen_ok,List.map_toArray,List.map_cons,List.map_nil,hs,hy,hr];exact hK
end Go.Proofs.YtekpigjlnjddbaaGreatDoor
