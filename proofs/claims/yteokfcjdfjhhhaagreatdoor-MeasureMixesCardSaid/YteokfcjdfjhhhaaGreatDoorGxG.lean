/- Parts. -/
import Derived.Test.YteokfcjdfjhhhaaGreatDoorGuG
import Derived.Test.YteokfcjdfjhhhaaGreatDoorUwG
set_option linter.all false
set_option maxRecDepth 100000
set_option maxHeartbeats 8000000
namespace Go.Proofs.YteokfcjdfjhhhaaGreatDoor
open Go Go.RowKit Go.Sort

section
variable {w:World} {A:Option Addr} {n c:Nat} {ls:List Lay} {k:Int}
theorem jkR:Calls Tryz.prog 39 #[.slice A 0 c] w fun e w'=>e= .returned (.tuple #[.int .i64 0, .int .i64 2])∧Below w.heap.size w w':=by
 go_enter Tryz.func39,Tryz.ntmps39;go_wp2;go_ret2;exact ⟨rfl,bi⟩
theorem jl7 (hn:64 < n):Calls Tryz.prog 39 #[.slice A n c] w fun e w'=>e= .returned (.tuple #[.int .i64 0, .int .i64 5])∧Below w.heap.size w w':=by
 have q0:((n:Int)==0)=false:=by rw [beq_eq_false_iff_ne];omega
 have q1:decide ((64:Int) < (n:Int))=true:=by rw [decide_eq_true_iff];omega
 go_enter Tryz.func39,Tryz.ntmps39;go_wp2;go_ret2;exact ⟨rfl,bi⟩
theorem jnH (hE:Env w) (hv:Lv w A n ls) (h0:0 < n) (hn:n≤64) (hi:∀x∈ls,LayIn x) (hk:jab jaj ls=k) (hk0:k≠0):
  Calls Tryz.prog 39 #[.slice A n c] w fun e w'=>e= .returned (.tuple #[.int .i64 0, .int .i64 k])∧Below w.heap.size w w':=by
 have q0:((n:Int)==0)=false:=by rw [beq_eq_false_iff_ne];omega
 have q1:decide ((64:Int) < (n:Int))=false:=by rw [decide_eq_false_iff_not];omega
 have q2:(k != 0)=true:=by rw [bne_iff_ne];exact hk0
 have HL:=qh (fun W (hW:Below w.heap.size w W)=>jez (c:=c) hk (hE.below hW) (hv.below hW) (by omega) hi);clear hE hv hi hk hk0;go_enter Tryz.func39,Tryz.ntmps39;go_wp2_with (go_at_call 97;(with_reducible refine mo0 (HL.out _ bi) fun w1 hb1 hc1 hf1 _=> ?_))
 go_ret2;exact ⟨rfl,bi⟩
noncomputable def jku (ls:List Lay):Int:=if ls.length=0 then 2 else if 64 < ls.length then 5 else if jab jaj ls≠0 then jab jaj ls else if jbX (ls.getD 0 jaA).grain ls=true then 16 else if 999999999 < jcd ls then 4 else 0
theorem jiz {g:List UInt8} (hg:(ls.getD 0 jaA).grain=g):jgq g 0 ls=(if jbX g ls=true then (0,16) else if 999999999 < jcd ls then (0,4) else (jcd ls,0)):=by
 by_cases h:jbX g ls=true
 ·rw [if_pos h,jfL];obtain ⟨x,hx,he⟩:=List.any_eq_true.1 h;exact ⟨x,hx,by simpa using he⟩
 ·rw [if_neg h,ji2 (fun x hx=>Classical.byContradiction fun hc=>h (List.any_eq_true.2 ⟨x,hx,by simpa using hc⟩)),Int.zero_add]
theorem jnq (hE:Env w) (hv:Lv w A n ls) (hi:∀x∈ls,LayIn x) (hk:jku ls=k) (hk0:k≠0):
  Calls Tryz.prog 39 #[.slice A n c] w fun e w'=>e= .returned (.tuple #[.int .i64 0, .int .i64 k])∧Below w.heap.size w w':=by
 have hl:=hv.len;unfold jku at hk;by_cases h0:n=0
 ·rw [if_pos (by omega)] at hk;subst hk h0;exact jkR
 ·rw [if_neg (by omega)] at hk;by_cases h1:64 < n
  ·rw [if_pos (by omega)] at hk;subst hk;exact jl7 h1
  ·rw [if_neg (by omega)] at hk;by_cases h2:jab jaj ls=0
   ·rw [if_neg (by simpa using h2)] at hk;have hgo:=jiz (ls:=ls) rfl
    have h3:jgq (ls.getD 0 jaA).grain 0 ls=(0,k):=by
     rw [hgo];by_cases h4:jbX (ls.getD 0 jaA).grain ls=true
     ·rw [if_pos h4] at hk ⊢;rw [hk]
     ·rw [if_neg h4] at hk ⊢;by_cases h5:999999999 < jcd ls
      ·rw [if_pos h5] at hk ⊢;rw [hk]
      ·rw [if_neg h5] at hk;exact absurd hk.symm hk0
    exact jkX (R:=(0,k)) hE hv (by omega) (by omega) hi h2 h3
   ·rw [if_pos (by simpa using h2)] at hk;exact jnH hE hv (by omega) (by omega) hi hk hk0
theorem jqL (hE:Env w) (hv:Lv w A n ls) (hi:∀x∈ls,LayIn x) (hk:jku ls=k) (hk0:k≠0):
  Calls Tryz.prog 11 #[.slice A n c] w fun e w'=>e= .returned (.tuple #[.agg #[bs [], .int .i64 0, .slice none 0 0], .int .i64 k])∧Below w.heap.size w w':=by
 have q2:(k != 0)=true:=by rw [bne_iff_ne];exact hk0
 have HC:=qh (fun W (hW:Below w.heap.size w W)=>jnq (c:=c) (hE.below hW) (hv.below hW) hi hk hk0);clear hE hv hi hk hk0;go_enter Tryz.func11,Tryz.ntmps11;go_wp2_with (go_at_call 39;(with_reducible refine mo1 w (HC.out _ bi) (by go_size) fun w1 hb1 hc1 hf1 z1_0 _=> ?_))
 exact bodyPost_ret (v:= .tuple #[.agg #[bs [], .int .i64 0, .slice none 0 0], .int .i64 k]) (by simp [results,Tryz.results11,go_sem,hc1,hf1,z1_0]) rfl ⟨rfl,bi⟩
end

theorem jm4 {n:Nat} {ls:List Lay} (h:jcX n ls=true):(n≤6∨64 < n)∧n≤66∧∀x∈ls,x.shares.length≤70∧∀p∈x.shares,p.1.length≤40∧p.2.length≤20:=by
 simp only [jcX,jch,jkx,jha,Bool.and_eq_true,List.all_eq_true,decide_eq_true_eq,Bool.not_eq_true',Bool.or_eq_false_iff,Bool.and_eq_false_iff,decide_eq_false_iff_not] at h;refine ⟨by omega,by omega,fun x hx=> ?_⟩;have:=h.2 x hx;exact ⟨this.2.1,fun p hp=>this.2.2 p hp⟩
def jn1 (y:List UInt8):List (List UInt8)→List (List UInt8)
 | []=> [y]
 | x::r=>if y < x then y::x::r else if x=y then x::r else x::jn1 y r
theorem jef (y:List UInt8):∀(ks:List (List UInt8)) (x:List UInt8),x∈jn1 y ks↔x∈ks∨x=y
 | [],x=>by simp [jn1]
 | z::r,x=>by
   rw [jn1];split
   ·simp only [List.mem_cons];exact ⟨fun h=>h.elim .inr .inl,fun h=>h.elim .inr .inl⟩
   ·split
    ·rename_i h;subst h
     exact ⟨.inl,fun h=>h.elim id (fun e=>by rw [e];exact List.mem_cons_self ..)⟩
    ·rw [List.mem_cons,jef y r,List.mem_cons,or_assoc]
theorem jj6 (y:List UInt8):∀{ks:List (List UInt8)},Ordered ks→Ordered (jn1 y ks)
 | [],_=>⟨by simp [jn1],by simp [jn1]⟩
 | z::r,h=>by
   obtain ⟨a1,a2⟩:=List.nodup_cons.1 h.nodup;obtain ⟨a3,a4⟩:=List.pairwise_cons.1 h.le;rw [jn1];split
   ·rename_i hy
    refine ⟨List.nodup_cons.2 ⟨fun hm=> ?_,h.nodup⟩,List.pairwise_cons.2 ⟨fun x hx=> ?_,h.le⟩⟩
    ·rcases List.mem_cons.1 hm with e|hm
     ·rw [e] at hy;exact List.lt_irrefl _ hy
     ·exact (List.not_le.2 hy) (a3 y hm)
    ·rcases List.mem_cons.1 hx with rfl|hx
     ·exact List.le_of_lt hy
     ·exact List.le_trans (List.le_of_lt hy) (a3 x hx)
   ·rename_i hy
    split
    ·exact h
    ·rename_i hz
     have ih:=jj6 y (ks:=r) ⟨a2,a4⟩;refine ⟨List.nodup_cons.2 ⟨fun hm=> ?_,ih.nodup⟩,List.pairwise_cons.2 ⟨fun x hx=> ?_,ih.le⟩⟩
     ·rcases (jef y r z).1 hm with hm|e
      ·exact a1 hm
      ·exact hz e
     ·rcases (jef y r x).1 hx with hx|rfl
      ·exact a3 x hx
      ·exact List.not_lt.1 hy
def keysOf (cs:List (List UInt8×Rat)):List (List UInt8):=cs.foldr (fun c ks=>jn1 c.1 ks) []
theorem jc4:∀(cs:List (List UInt8×Rat)),Ordered (keysOf cs)
 | []=>⟨List.nodup_nil,List.Pairwise.nil⟩
 | c::r=>jj6 c.1 (jc4 r)
theorem jbw:∀(cs:List (List UInt8×Rat)) (x:List UInt8),x∈keysOf cs↔jbF cs x=true
 | [],x=>by simp [keysOf,jbF]
 | c::r,x=>by
   have:=jbw r x;show x∈jn1 c.1 (keysOf r)↔_
   rw [jef,this];simp only [jbF,List.any_cons,Bool.or_eq_true,beq_iff_eq];exact ⟨fun h=>h.elim .inr (fun e=> .inl e.symm),fun h=>h.elim (fun e=> .inr e.symm) .inl⟩
noncomputable def jqA (ls:List Lay):List (List UInt8×List UInt8):=(keysOf (jal ls)).map (fun x=>(x,tq (tot (jal ls) x / ((jcd ls:Int):Rat))))
section
variable {w:World} {A:Option Addr} {n c d:Nat} {ls:List Lay} {K:Int}
theorem jhr (h:RMix w A n ls d) (h0:0 < n):0 < (keysOf (jal ls)).length:=by
 obtain ⟨hm,h1,h2,h3⟩:=h.layer h0;have h4:=(jav h3).1.1;obtain ⟨p,hp⟩:∃p,p∈(ls.getD 0 jaA).shares:=⟨_,List.getElem_mem h4⟩
 have:jbF (jal ls) p.1=true:=by
  unfold jbF jal;rw [List.any_eq_true];exact ⟨(p.1,numQ p.2*(((ls.getD 0 jaA).mass:Int):Rat)),List.mem_flatMap.2 ⟨_,hm,List.mem_map.2 ⟨p,hp,rfl⟩⟩,by simp⟩
 exact List.length_pos_of_mem ((jbw _ _).2 this)
theorem jjC (h:RMix w A n ls d) (h0:0 < n):1≤jcd ls:=by
 have:=(jdW h.ok).1;rw [h.view.len] at this;omega
theorem jjk (h:RMix w A n ls d) (h0:0 < n) (h9:jcd ls≤999999999) (hlim:n*(d+10)+10≤600) (y:List UInt8):Dz 600 (tot (jal ls) y / ((jcd ls:Int):Rat)):=by
 have h1:=jjC h h0;exact ((h.all y).div (jes ⟨h1,h9⟩) (by simp;omega)).mono (by omega)
theorem jer (h:jku ls=0):jab jaj ls=0∧jbX (ls.getD 0 jaA).grain ls=false∧jcd ls≤999999999:=by
 unfold jku at h;split at h
 ·omega
 ·split at h
  ·omega
  ·split at h
   ·omega
   ·rename_i h1
    split at h
    ·omega
    ·rename_i h2
     split at h
     ·omega
     ·exact ⟨by simpa using h1,by simpa using h2,by omega⟩
theorem jpJ (hE:Env w) (h:RMix w A n ls d) (h0:0 < n) (h64:n≤64) (hi:∀x∈ls,LayIn x) (hz:jku ls=0) (hk:(keysOf (jal ls)).length≤64) (hlim:n*(d+10)+10≤600) {q:Nat} (hq:q≤18) (hs:∀x,Dz d x→Sz q x):
  Calls Tryz.prog 11 #[.slice A n c] w fun e w'=>∃B d,e= .returned (.tuple #[.agg #[bs (ls.getD 0 jaA).grain, .int .i64 (jcd ls), .slice B (keysOf (jal ls)).length d], .int .i64 0])∧Pv w' B (keysOf (jal ls)).length (jqA ls)∧Below w.heap.size w w':=by
 obtain ⟨z1,z2,z3⟩:=jer hz;have h1:=jjC h h0;have hmix:jgq (ls.getD 0 jaA).grain 0 ls=(jcd ls,0):=by rw [jiz rfl,if_neg (by rw [z2];simp),if_neg (by omega)]
 have hM:MixIn w A n ls (jcd ls) q:=⟨h.view,h0,h64,hi,hq,fun x hx p hp=>hs _ (h.dz x hx p hp),z1,hmix⟩;refine jpt hE hM (jc4 _) (jbw _) (jhr h h0) hk rfl (by simp [jqA]) (fun j hj=> ?_);have hd:=jjk h h0 z3 hlim ((keysOf (jal ls)).getD j []);obtain ⟨g1,g2,g3⟩:=jjB hd (by omega) (by omega);have e:(jqA ls).getD j ([],[])=((keysOf (jal ls)).getD j [],tq (tot (jal ls) ((keysOf (jal ls)).getD j []) / ((jcd ls:Int):Rat))):=jjK hj;rw [e];exact ⟨rfl,hd.strQ (by omega),g1,g2⟩
theorem jfr {ks:List (List UInt8)}:jg9 ks ls=if jku ls≠0 then jku ls else if 64 < ks.length then 5 else 0:=by
 unfold jg9 jku;generalize jab jaj ls=k;generalize jbX (ls.getD 0 jaA).grain ls=b;generalize jcd ls=m;by_cases h1:ls.length=0
 ·simp only [h1,if_true];rfl
 ·by_cases h2:64 < ls.length
  ·simp only [h1,h2,if_true,if_false];rfl
  ·by_cases h3:k=0
   ·cases b
    ·by_cases h5:999999999 < m <;> simp [h1,h2,h3,h5]
    ·simp [h1,h2,h3]
   ·simp [h1,h2,h3]
theorem jnv (hE:Env w) (hv:Lv w A n ls) (hi:∀x∈ls,LayIn x) {q:Nat} (hq:q≤18) (hs:∀x∈ls,∀p∈x.shares,chk p.2=0→Sz q (numQ p.2)) (hK:jg9 (keysOf (jal ls)) ls=K) (hK0:K≠0):
  Calls Tryz.prog 11 #[.slice A n c] w fun e w'=>e= .returned (.tuple #[.agg #[bs [], .int .i64 0, .slice none 0 0], .int .i64 K])∧Below w.heap.size w w':=by
 rw [jfr] at hK;by_cases hm:jku ls=0
 ·rw [if_neg (by simpa using hm)] at hK;by_cases h64:64 < (keysOf (jal ls)).length
  ·rw [if_pos h64] at hK;subst hK;obtain ⟨z1,z2,z3⟩:=jer hm;have hl:=hv.len
   have h0:0 < n∧n≤64:=by
    unfold jku at hm;split at hm
    ·omega
    ·split at hm <;> omega
   have hmix:jgq (ls.getD 0 jaA).grain 0 ls=(jcd ls,0):=by rw [jiz rfl,if_neg (by rw [z2];simp),if_neg (by omega)]
   have hM:MixIn w A n ls (jcd ls) q:=⟨hv,h0.1,h0.2,hi,hq,fun x hx p hp=>hs x hx p hp ((jav (jan (jay z1 x hx)).2.2.2).2 p hp).2.1,z1,hmix⟩
   exact (jps hE hM (jc4 _) (jbw _) (by omega) rfl (outs:=jqA ls) (by simp [jqA]) (fun h=>by omega)).mono fun e w' ⟨h1,h2⟩=>by
    rcases h1 with ⟨_,h⟩|⟨h,_⟩
    ·exact ⟨h,h2⟩
    ·omega
  ·rw [if_neg h64] at hK;exact absurd hK.symm hK0
 ·rw [if_pos hm] at hK;exact jqL hE hv hi hK hK0
theorem jla (hK:jg9 (keysOf (jal ls)) ls=K) (hv:Lv w A n ls) (hn:n≤6∨64 < n) (ht:jrY 20 ls):Calls Tryz.prog 12 #[.slice A n c] w fun e w'=>e= .returned (.int .i64 K)∧Below w.heap.size w w':=by
 have hl:=hv.len;by_cases h64:64 < n
 ·rw [jg9,if_neg (by omega),if_pos (by omega)] at hK;subst hK;exact jkA h64
 ·by_cases h0:n=0
  ·rw [jg9,if_pos (by omega)] at hK;subst hK h0;exact jkq _
  ·exact jnd hK hv (by omega) (by omega) ht (by omega) (by omega) (by
    have:(n+2)*(20+10)≤8*(20+10):=Nat.mul_le_mul_right _ (by omega)
    omega) (jc4 _) (jbw _)
end
end Go.Proofs.YteokfcjdfjhhhaaGreatDoor
