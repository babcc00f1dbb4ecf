/- Parts. -/
import Derived.Test.YtfagcpcikjlboaaGreatDoorKdG
set_option linter.all false
set_option maxRecDepth 100000
set_option maxHeartbeats 8000000
namespace Go.Proofs.YtfagcpcikjlboaaGreatDoor

theorem jsY {y f:Nat} (hy:0 < y) (hf:0 < f) (h:B9 < (y+1)*(f+1)):B9≤2*(y*f):=by
 obtain ⟨a,rfl⟩:∃a,y=a+1:=⟨y - 1,by omega⟩;obtain ⟨b,rfl⟩:∃b,f=b+1:=⟨f - 1,by omega⟩
 have e1:(a+1+1)*(b+1+1)=a*b+a+a+b+b+4:=by
  rw [Nat.add_mul,Nat.add_mul,Nat.mul_add,Nat.mul_add];omega
 have e2:(a+1)*(b+1)=a*b+a+b+1:=by rw [Nat.add_mul,Nat.mul_add];omega
 rw [e1] at h;rw [e2];rw [jaq] at*;omega
structure Norm9 (ds es:List Nat) (n f:Nat) (us vs:List Nat):Prop where
 flt:f < B9
 f0:0 < f
 du:Pos.Dig B9 us
 dv:Pos.Dig B9 vs
 X:Pos.nv B9 us=Pos.nv B9 ds*f
 V:Pos.nv B9 vs=Pos.nv B9 es*f
 lv:vs.length=n
 lu:us.length≤ds.length+1
 norm:B9≤2*dg vs (n - 1)
 lt:Pos.nv B9 us < Pos.nv B9 vs*B9^(ds.length+1 - n)
theorem jm4 {ds es us vs:List Nat} {n f y:Nat} (hd:Pos.Dig B9 ds) (he:Pos.Dig B9 es) (te:Pos.Trim es) (hl:es.length=n) (hn:2≤n) (hnd:n≤ds.length) (hy:dg es (n - 1)=y) (hf:B9 / (y+1)=f)
  (du:Pos.Dig B9 us) (tu:Pos.Trim us) (hu:Pos.nv B9 us=Pos.nv B9 ds*f) (dv:Pos.Dig B9 vs) (tv:Pos.Trim vs) (hv:Pos.nv B9 vs=Pos.nv B9 es*f):Norm9 ds es n f us vs:=by
 have hy9:y < B9:=by rw [←hy];exact dg9 he _
 have hy0:0 < y:=by
  have:=te.last (by omega);rw [←hy,gd (by omega)];have e:es[es.length - 1]=es[n - 1]:=by simp only [hl]
  rw [←e];omega
 have hf1:f*(y+1)≤B9:=by rw [←hf];exact Nat.div_mul_le_self _ _
 have hf2:B9 < (y+1)*(f+1):=by rw [←hf];exact Nat.lt_mul_div_succ _ (by omega)
 have hf0:0 < f:=by rw [←hf];exact Nat.div_pos (by omega) (by omega)
 have hflt:f < B9:=by
  have:f*2≤f*(y+1):=Nat.mul_le_mul_left _ (by omega);have:=jal;omega
 have hb:Pos.nv B9 es=Pos.nv B9 (es.take (n - 1))+B9^(n - 1)*y:=by
  have:=jgt es (n - 1);rw [hy,show n - 1+1=n by omega,List.take_of_length_le (by omega)] at this;exact this
 have hbl:Pos.nv B9 (es.take (n - 1)) < B9^(n - 1):=by
  have:=Pos.nv_lt (he.take (n - 1));rwa [List.length_take,Nat.min_eq_left (by omega)] at this
 have hpow:B9^n=B9^(n - 1)*B9:=by
  conv=>lhs;rw [show n=(n - 1)+1 by omega]
  exact Nat.pow_succ ..
 have hp0:0 < B9^(n - 1):=Nat.pow_pos jal
 have hVlt:Pos.nv B9 vs < B9^n:=by
  rw [hv,hpow];have h1:Pos.nv B9 es < B9^(n - 1)*(y+1):=by rw [Nat.mul_add,Nat.mul_one];omega
  have h2:Pos.nv B9 es*f < B9^(n - 1)*(y+1)*f:=Nat.mul_lt_mul_of_pos_right h1 hf0
  have h3:B9^(n - 1)*(y+1)*f≤B9^(n - 1)*B9:=by
   rw [Nat.mul_assoc,Nat.mul_comm (y+1)];exact Nat.mul_le_mul_left _ hf1
  omega
 have hVge:B9^(n - 1)*(y*f)≤Pos.nv B9 vs:=by
  rw [hv,←Nat.mul_assoc];exact Nat.mul_le_mul_right _ (by omega)
 have hyf:f≤y*f:=Nat.le_mul_of_pos_left _ hy0;have hVge1:B9^(n - 1)*f≤Pos.nv B9 vs:=Nat.le_trans (Nat.mul_le_mul_left _ hyf) hVge
 have hlv:vs.length=n:=by
  rcases Nat.lt_trichotomy vs.length n with h|h|h
  ·have h1:=Pos.nv_lt dv;have h2:B9^vs.length≤B9^(n - 1):=Nat.pow_le_pow_right jal (by omega);have h3:=Nat.le_mul_of_pos_right (B9^(n - 1)) hf0;omega
  ·exact h
  ·have h1:=Pos.nv_ge (b:=B9) tv (by omega);have h2:B9^n≤B9^(vs.length - 1):=Nat.pow_le_pow_right jal (by omega);omega
 have hvs:Pos.nv B9 vs=Pos.nv B9 (vs.take (n - 1))+B9^(n - 1)*dg vs (n - 1):=by
  have:=jgt vs (n - 1);rw [show n - 1+1=n by omega,List.take_of_length_le (by omega)] at this;exact this
 have hvl:Pos.nv B9 (vs.take (n - 1)) < B9^(n - 1):=by
  have:=Pos.nv_lt (dv.take (n - 1));rwa [List.length_take,Nat.min_eq_left (by omega)] at this
 have htop:y*f≤dg vs (n - 1):=by
  have h1:B9^(n - 1)*(y*f) < B9^(n - 1)*(dg vs (n - 1)+1):=by rw [Nat.mul_add,Nat.mul_one];omega
  have:=Nat.lt_of_mul_lt_mul_left h1;omega
 have hXlt:Pos.nv B9 us < B9^ds.length*f:=by
  rw [hu];exact Nat.mul_lt_mul_of_pos_right (Pos.nv_lt hd) hf0
 refine ⟨hflt,hf0,du,dv,hu,hv,hlv, ?_, ?_, ?_⟩
 ·rcases Nat.lt_or_ge (ds.length+1) us.length with h|h
  ·exfalso;have h1:=Pos.nv_ge (b:=B9) tu (by omega);have h2:B9^(ds.length+1)≤B9^(us.length - 1):=Nat.pow_le_pow_right jal (by omega);rw [Nat.pow_succ] at h2;have h3:B9^ds.length*f≤B9^ds.length*B9:=Nat.mul_le_mul_left _ (Nat.le_of_lt hflt);omega
  ·exact h
 ·have:=jsY hy0 hf0 hf2;omega
 ·have h1:B9^(n - 1)*f*B9^(ds.length+1 - n)≤Pos.nv B9 vs*B9^(ds.length+1 - n):=Nat.mul_le_mul_right _ hVge1
  have h2:B9^(n - 1)*f*B9^(ds.length+1 - n)=B9^ds.length*f:=by
   rw [Nat.mul_right_comm,←Nat.pow_add,show n - 1+(ds.length+1 - n)=ds.length by omega]
  omega
structure DivI (us qs vs:List Nat) (X N n J:Nat):Prop where
 lu:us.length=N
 lq:qs.length+n=N
 jn:J+n≤N
 du:Pos.Dig B9 us
 dq:Pos.Dig B9 qs
 top:∀p,J+n≤p→dg us p=0
 low:∀p,p < J→dg qs p=0
 val:Pos.nv B9 vs*Pos.nv B9 qs+Pos.nv B9 us=X
 lt:Pos.nv B9 us < Pos.nv B9 vs*B9^J
section
variable {us qs vs ws:List Nat} {X N n j k t:Nat}
theorem jo3 (hu:Pos.Dig B9 us) (hl:us.length=N) (htop:∀p,j+(n+1)≤p→dg us p=0):Pos.nv B9 us=Pos.nv B9 (us.take j)+B9^j*sx (fun i=>dg us (j+i)) (n+1):=by
 rw [←jfi,←jk1];rcases Nat.lt_or_ge us.length (j+(n+1)) with h|h
 ·rw [jjx (by omega)]
 ·have e:∀m,sx (dg us) (j+(n+1)+m)=sx (dg us) (j+(n+1)):=by
   intro m
   induction m with
   | zero=>rfl
   | succ m ih=>
     show sx (dg us) (j+(n+1)+m)+B9^(j+(n+1)+m)*dg us (j+(n+1)+m)=_
     rw [htop _ (by omega),Nat.mul_zero,Nat.add_zero,ih]
  have:=e (us.length - (j+(n+1)));rw [show j+(n+1)+(us.length - (j+(n+1)))=us.length by omega,jjx (Nat.le_refl _)] at this;exact this
theorem DivI.win (h:DivI us qs vs X N n (j+1)):Pos.nv B9 us=Pos.nv B9 (us.take j)+B9^j*sx (fun i=>dg us (j+i)) (n+1):=jo3 h.du h.lu (fun p hp=>h.top p (by omega))
theorem DivI.wlt (h:DivI us qs vs X N n (j+1)):sx (fun i=>dg us (j+i)) (n+1) < Pos.nv B9 vs*B9:=by
 have h1:=h.lt;rw [h.win,Nat.pow_succ] at h1
 have h2:B9^j*sx (fun i=>dg us (j+i)) (n+1) < B9^j*(Pos.nv B9 vs*B9):=by
  rw [Nat.mul_left_comm];omega
 exact Nat.lt_of_mul_lt_mul_left h2
theorem DivI.gs (h:DivI us qs vs X N (k+2) (j+1)) (dv:Pos.Dig B9 vs) (lv:vs.length=k+2) (hn:B9≤2*dg vs (k+1)):Gs us vs j k:=
 ⟨h.du,dv,hn,by rw [jjx (by omega)];exact h.wlt⟩
theorem DivI.step (h:DivI us qs vs X N n (j+1)) (lv:vs.length=n) (hD:Done9 us ws vs j n t) (hV:0 < Pos.nv B9 vs):DivI ws (qs.set j t) vs X N n j∧t < B9:=by
 have hw:=h.wlt;have hq:=hD.quo;have hr:=hD.rest;rw [jjx (l:=vs) (by omega)] at hq hr;have ht:t < B9:=by rw [hq];exact (Nat.div_lt_iff_lt_mul hV).2 (by rw [Nat.mul_comm];exact hw)
 have hjn:=h.jn;have hlq:=h.lq;have hlw:ws.length=N:=by rw [hD.len,h.lu]
 have htop:∀p,j+n≤p→dg ws p=0:=fun p hp=>by
  rcases Nat.lt_or_ge (j+n) p with e|e
  ·rw [hD.out p (.inr e)];exact h.top p (by omega)
  ·rw [show p=j+n by omega];exact hD.top
 have ewin:Pos.nv B9 ws=Pos.nv B9 (us.take j)+B9^j*(sx (fun i=>dg us (j+i)) (n+1) % Pos.nv B9 vs):=by
  rw [jo3 (n:=n) (j:=j) hD.dig hlw (fun p hp=>htop p (by omega)),←jfi,←jfi,jc0 (f:=dg ws) (g:=dg us) fun i hi=>hD.out i (.inl hi)]
  congr 1
  show _*(sx (fun i=>dg ws (j+i)) n+B9^n*dg ws (j+n))=_
  rw [hD.top,Nat.mul_zero,Nat.add_zero,hr]
 have hqs:=(h.dq).set j ht
 have hqv:Pos.nv B9 (qs.set j t)=Pos.nv B9 qs+B9^j*t:=by
  have:=Pos.nv_set (b:=B9) (l:=qs) (i:=j) (d:=t) (by omega);rw [←gd (by omega),h.low j (by omega),Nat.mul_zero,Nat.add_zero] at this;exact this
 have hmod:=Nat.mod_lt (sx (fun i=>dg us (j+i)) (n+1)) hV;have hdm:=Nat.div_add_mod (sx (fun i=>dg us (j+i)) (n+1)) (Pos.nv B9 vs);rw [←hq] at hdm
 have htl:Pos.nv B9 (us.take j) < B9^j:=by
  have:=Pos.nv_lt (h.du.take j);rw [List.length_take,Nat.min_eq_left (by rw [h.lu];omega)] at this;exact this
 refine ⟨⟨hlw,by rw [List.length_set];exact hlq,by omega,hD.dig,hqs,htop,fun p hp=>by rw [jgh (by omega)];exact h.low p (by omega), ?_, ?_⟩,ht⟩
 ·rw [hqv,ewin,←h.val,h.win,Nat.mul_add];have e:=congrArg (B9^j* ·) hdm;simp only [Nat.mul_add] at e;rw [Nat.mul_left_comm (Pos.nv B9 vs) (B9^j) t];omega
 ·rw [ewin];have:B9^j*(sx (fun i=>dg us (j+i)) (n+1) % Pos.nv B9 vs+1)≤B9^j*Pos.nv B9 vs:=Nat.mul_le_mul_left _ hmod;rw [Nat.mul_add,Nat.mul_one] at this;rw [Nat.mul_comm (Pos.nv B9 vs)];omega
theorem DivI.fin {a b f:Nat} (h:DivI us qs vs X N n 0) (hf:0 < f) (hX:X=a*f) (hV:Pos.nv B9 vs=b*f) (hb:0 < b):Pos.nv B9 qs=a / b∧Pos.nv B9 (us.take n) / f=a % b:=by
 have h1:=h.val;have h2:=h.lt;rw [Nat.pow_zero,Nat.mul_one] at h2;rw [Nat.mul_comm] at h1;obtain ⟨r1,r2⟩:=jjp h1.symm h2;rw [hX,hV] at r1 r2;rw [Nat.mul_div_mul_right _ _ hf] at r1;rw [Nat.mul_mod_mul_right] at r2
 have e:Pos.nv B9 (us.take n)=Pos.nv B9 us:=by
  have hz:=jo3 (j:=0) (n:=n) h.du h.lu (fun p hp=>h.top p (by omega));have hn:=h.jn;rw [List.take_zero,Nat.pow_zero,Nat.one_mul] at hz;rw [hz,←jfi];show _=0+(sx (fun i=>dg us (0+i)) n+B9^n*dg us (0+n))
  rw [h.top (0+n) (by omega),Nat.mul_zero,Nat.add_zero,Nat.zero_add];exact jc0 fun i _=>by rw [Nat.zero_add]
 refine ⟨r1, ?_⟩;rw [e,r2,Nat.mul_div_cancel _ hf]
theorem jeD (l:List Nat) (d:Nat):Pos.nv B9 (l++List.replicate d 0)=Pos.nv B9 l:=by rw [Pos.nv_append,Pos.nv_zeros,Nat.mul_zero,Nat.add_zero]
theorem DivI.start {ds es:List Nat} {f:Nat} (h:Norm9 ds es n f us vs) (hn:n≤ds.length) (hU:ws=us++List.replicate (ds.length+1 - us.length) 0):DivI ws (List.replicate (ds.length+1 - n) 0) vs (Pos.nv B9 ds*f) (ds.length+1) n (ds.length+1 - n):=by
 have hl:=h.lu;subst hU;have hlen:(us++List.replicate (ds.length+1 - us.length) 0).length=ds.length+1:=by simp;omega
 refine ⟨hlen,by simp;omega,by omega,h.du.append (fun d hd=>by rw [(List.mem_replicate.1 hd).2];exact jal),fun d hd=>by rw [(List.mem_replicate.1 hd).2];exact jal,fun p hp=>jjf (by rw [hlen];omega),fun p _=>jqJ _ _, ?_, ?_⟩
 ·rw [Pos.nv_zeros,Nat.mul_zero,Nat.zero_add,jeD,h.X]
 ·rw [jeD];exact h.lt
end
end Go.Proofs.YtfagcpcikjlboaaGreatDoor
namespace Go.Proofs.YtfagcpcikjlboaaGreatDoor
open Go Go.RowKit Go.Proofs.Tryz

theorem Tryz.iint:(prog.info? 3).map (fun i=>(i.zero,i.size,i.bytes))=some (some (.int .i64 0),1,8):=by kernel_rfl
structure Urow (W:World) (g N:Nat) (zs:List Int):Prop where
 len:zs.length=N
 lt:g < W.heap.size
 cell:∀j,j < N→W.cell? ⟨g,j,none⟩=some (.int .i64 (zs.getD j 0))
 frozen:∀o,W.frozen? ⟨g,o,none⟩=false
theorem Urow.set {W:World} {g N p:Nat} {zs:List Int} (h:Urow W g N zs) (hp:p < N) (z:Int):Urow (W.setCell ⟨g,p,none⟩ (.int .i64 z)) g N (zs.set p z):=by
 refine ⟨by rw [List.length_set];exact h.len,by simpa using h.lt,fun j hj=> ?_,fun o=>by simp [h.frozen o]⟩;by_cases e:j=p
 ·subst e;rw [World.cell?_setCell_same' _ _ _ (by rw [h.cell j hj];rfl),List.getD_eq_getElem?_getD,List.getElem?_set_self (by rw [h.len];exact hj)];rfl
 ·rw [World.cell?_setCell_other _ _ _ _ (by intro k;cases k;exact e rfl),h.cell j hj,List.getD_eq_getElem?_getD,List.getD_eq_getElem?_getD,List.getElem?_set_ne (Ne.symm e)]
theorem Urow.far {W:World} {g N:Nat} {zs:List Int} (h:Urow W g N zs) {p:Addr} (hp:g≠p.block) (v:Value):Urow (W.setCell p v) g N zs:=
 ⟨h.len,by simpa using h.lt,fun j hj=>by rw [World.cell?_setCell_far _ _ _ _ (by first|exact hp|exact Ne.symm hp|(dsimp only;exact hp)|(dsimp only;exact Ne.symm hp))];exact h.cell j hj,fun o=>by simp [h.frozen o]⟩
theorem Urow.below {W W':World} {g N:Nat} {zs:List Int} (h:Urow W g N zs) (hb:Below W.heap.size W W'):Urow W' g N zs:=by
 have e:=hb.block g h.lt
 exact ⟨h.len,Nat.lt_of_lt_of_le h.lt hb.size,fun j hj=>(hb.cell (p:=⟨g,j,none⟩) h.lt).trans (h.cell j hj),fun o=>by
  have:=h.frozen o;simp only [World.frozen?,e] at this ⊢
  exact this⟩
theorem Urow.dv {W:World} {g N:Nat} {us:List Nat} (h:Urow W g N (iz us)) (hN:N < 1099511627776) (hd:Pos.Dig B9 us):Dv W (some ⟨g,0,none⟩) N us:=
 ⟨by rw [←h.len,jaY],hd,hN,fun _=>⟨g,0,rfl,h.lt,fun j hj=>by rw [Nat.zero_add,h.cell j hj,jeq]⟩⟩
theorem Urow.own {W:World} {base g N cap:Nat} {zs:List Int} (h:jbW W base (.slice (some ⟨g,0,none⟩) N cap) N zs) (hl:zs.length=N) (h0:0 < N):Urow W g N zs:=by
 obtain ⟨g',c',e,h1,h2⟩:=jbW.at_ h hl h0;cases e
 rcases h.2 with ⟨e,_⟩|⟨g',cap',cur,e,_,hg,_⟩
 ·cases e
 ·cases e
  exact ⟨hl,h1,h2,fun o=>by simp [World.frozen?,hg]⟩
structure Two (W0 W:World) (g q:Nat):Prop where
 os:W.os=W0.os
 tape:W.tape=W0.tape
 output:W.output=W0.output
 size:W0.heap.size≤W.heap.size
 block:∀k,k < W0.heap.size→k≠g→k≠q→W.heap[k]? =W0.heap[k]?
section
variable {W0 W W':World} {g q:Nat}
theorem Two.refl (W0:World) (g q:Nat):Two W0 W0 g q:=⟨rfl,rfl,rfl,Nat.le_refl _,fun _ _ _ _=>rfl⟩
theorem Two.drew (h:Two W0 W g q):Two W0 W.drew g q:=⟨h.os,h.tape,h.output,h.size,h.block⟩
theorem Two.set (h:Two W0 W g q) {p:Addr} (hp:p.block=g∨p.block=q) (v:Value):Two W0 (W.setCell p v) g q:=
 ⟨h.os,h.tape,h.output,by simpa using h.size,fun k hk h1 h2=>(Below.heap_setCell _ _ _ k (by rcases hp with e|e <;> rw [e] <;> assumption)).trans (h.block k hk h1 h2)⟩
theorem Two.more (h:Two W0 W g q) (hb:Below W.heap.size W W'):Two W0 W' g q:=
 ⟨hb.os.trans h.os,hb.tape.trans h.tape,hb.output.trans h.output,Nat.le_trans h.size hb.size,fun k hk h1 h2=>(hb.block k (Nat.lt_of_lt_of_le hk h.size)).trans (h.block k hk h1 h2)⟩
theorem Two.below {w:World} (h:Two W0 W g q) (hb:Below w.heap.size w W0) (hg:w.heap.size≤g) (hq:w.heap.size≤q):Below w.heap.size w W:=
 ⟨h.os.trans hb.os,h.tape.trans hb.tape,h.output.trans hb.output,Nat.le_trans hb.size h.size,fun k hk=>(h.block k (Nat.lt_of_lt_of_le hk hb.size) (by omega) (by omega)).trans (hb.block k hk)⟩
theorem Two.cell (h:Two W0 W g q) {b o:Nat} {v:Value} (hb:b < W0.heap.size) (h1:b≠g) (h2:b≠q) (hc:W0.cell? ⟨b,o,none⟩=some v):W.cell? ⟨b,o,none⟩=some v:=
 (World.cell?_of_block (a:=⟨b,o,none⟩) (h.block b hb h1 h2)).trans hc
end
theorem jmy {A:Option Addr} {n c:Nat} {ds:List Nat} {w:World} (h:Dv w A n ds) (hn:n≤c) (hc:c < 9223372036854775808):Calls prog 120 #[.slice A n c] w fun e w'=>∃k,e= .returned (.slice A k c)∧k≤n∧Pos.Trim (ds.take k)∧Pos.nv B9 (ds.take k)=Pos.nv B9 ds∧Below w.heap.size w w':=
 (jjv A n c ds w h hn hc).mono fun e w' ⟨k,hk,ht,hv,he,hw⟩=>⟨k,he,hk,ht,hv,by rw [←hw];exact Below.refl _ _⟩
theorem jjq {A:Option Addr} {n c d:Nat} {ds:List Nat} {w:World} (h:Dv w A n ds) (hd0:0 < d) (hd:d < B9):Calls prog 132 #[.slice A n c, .int .i64 (d:Int)] w fun e w'=>
  ∃k es,∃r:Nat,e= .returned (.tuple #[.slice (some ⟨w.heap.size,0,none⟩) k n, .int .i64 (r:Int)])∧Dv w' (some ⟨w.heap.size,0,none⟩) k es∧Pos.Trim es∧Pos.nv B9 es=Pos.nv B9 ds / d∧k≤n∧Below w.heap.size w w':=
 (jhm h hd0 hd).mono fun e w' ⟨k,es,he,r⟩=>⟨k,es,_,he,r⟩
theorem DivI.gs2 {us qs vs:List Nat} {X N n j k:Nat} (h:DivI us qs vs X N n (j+1)) (hk:n=k+2) (dv:Pos.Dig B9 vs) (lv:vs.length=n) (hn:B9≤2*dg vs (n - 1)):Gs us vs j k:=by
 subst hk;exact h.gs dv lv hn
theorem Gd.at2 {us vs:List Nat} {j k n t:Nat} (h:Gd us vs j k t) (hk:n=k+2):sx (fun i=>dg us (j+i)) (n+1) / sx (dg vs) n≤t∧t*sx (dg vs) n < sx (fun i=>dg us (j+i)) (n+1)+sx (dg vs) n∧t≤B9:=by
 subst hk;exact ⟨h.ge,h.lt,h.le⟩
theorem Two.dv {W0 W:World} {g q b o n:Nat} {vs:List Nat} (h:Two W0 W g q) (hb:b < W0.heap.size) (h1:b≠g) (h2:b≠q) (hd:Dv W0 (some ⟨b,o,none⟩) n vs):Dv W (some ⟨b,o,none⟩) n vs:=
 ⟨hd.len,hd.dig,hd.big,fun h0=>by
   obtain ⟨b',o',e,_,hc⟩:=hd.at_ h0;cases e
   exact ⟨b,o,rfl,Nat.lt_of_lt_of_le hb h.size,fun j hj=>h.cell hb h1 h2 (hc j hj)⟩⟩
theorem jnu {i j N:Nat} (h:i+j < N) (hN:N≤30000):wrap64 ((i:Int)+(j:Int))=(i:Int)+(j:Int)∧0≤(i:Int)+(j:Int)∧(i:Int)+(j:Int) < (N:Int)∧((i:Int)+(j:Int)).toNat=i+j:=by
 refine ⟨by unfold wrap64;omega,by omega,by omega,by omega⟩
theorem jnr {t v c z p s q:Nat} (ht:t≤B9) (hv:v < B9) (hz:z < B9) (hc:c≤t) (hp:t*v+c=p) (hpl:p≤1000000000000000000) (hs:p % B9=s) (hq:p / B9=q):∃P:Nat,wrap64 ((t:Int)*(v:Int))=(P:Int)∧wrap64 ((P:Int)+(c:Int))=(p:Int)∧(p:Int) % 1000000000=(s:Int)∧(p:Int) / 1000000000=(q:Int)∧(p:Int).tmod 1000000000=(s:Int)∧(p:Int).tdiv 1000000000=(q:Int)∧wrap64 (q:Int)=(q:Int):=by
 refine ⟨t*v, ?_, ?_, ?_, ?_, ?_, ?_, ?_⟩
 ·rw [←Int.natCast_mul];obtain ⟨P,hP⟩:∃P,t*v=P:=⟨_,rfl⟩;rw [hP] at hp ⊢;unfold wrap64;omega
 ·rw [show ((t*v:Nat):Int)+(c:Int)=(p:Int) by omega];unfold wrap64;omega
 ·rw [←hs];rfl
 ·rw [←hq];rfl
 ·rw [←hs];rfl
 ·rw [←hq];rfl
 ·rw [jaq] at hq;unfold wrap64;omega
theorem jtf {i:Nat} (h:i < 4294967296):wrap64 ((i:Int)+1)=(i:Int)+1:=by unfold wrap64;omega
theorem juw {z s d:Nat} (hz:z < B9) (h:s≤z) (hd:z - s=d):wrap64 ((z:Int) - (s:Int))=(d:Int)∧decide ((d:Int) < 0)=false:=by
 rw [jaq] at hz;exact ⟨by unfold wrap64;omega,by rw [decide_eq_false_iff_not];omega⟩
theorem juv {z s d q t:Nat} (hz:z < B9) (hs:s < B9) (h:z < s) (hd:z+B9 - s=d) (hq:q+1≤t) (ht:t≤B9):wrap64 ((z:Int) - (s:Int))=(z:Int) - (s:Int)∧decide ((z:Int) - (s:Int) < 0)=true∧wrap64 ((z:Int) - (s:Int)+1000000000)=(d:Int)∧wrap64 ((q:Int)+1)=((q+1:Nat):Int):=by
 rw [jaq] at*;exact ⟨by unfold wrap64;omega,by rw [decide_eq_true_iff];omega,by unfold wrap64;omega,by unfold wrap64;omega⟩
theorem jkR {zs ws vs:List Nat} {j t i c v z N:Nat} (h:Take9 zs ws vs j t i c) (hl:zs.length=N) (hi:i+j < N) (ht:t≤B9) (hvs:Pos.Dig B9 vs) (hv:dg vs i=v) (hz:dg ws (i+j)=z):
  ∃ P p s q:Nat,wrap64 ((t:Int)*(v:Int))=(P:Int)∧wrap64 ((P:Int)+(c:Int))=(p:Int)∧(p:Int) % 1000000000=(s:Int)∧(p:Int) / 1000000000=(q:Int)∧(p:Int).tmod 1000000000=(s:Int)∧(p:Int).tdiv 1000000000=(q:Int)∧wrap64 (q:Int)=(q:Int)∧
    ((∃d:Nat,wrap64 ((z:Int) - (s:Int))=(d:Int)∧decide ((d:Int) < 0)=false∧Hd (Take9 zs (ws.set (i+j) d) vs j t (i+1) q))∨
     (∃(d:Nat) (X:Int),wrap64 ((z:Int) - (s:Int))=X∧decide (X < 0)=true∧wrap64 (X+1000000000)=(d:Int)∧wrap64 ((q:Int)+1)=((q+1:Nat):Int)∧Hd (Take9 zs (ws.set (i+j) d) vs j t (i+1) (q+1)))):=by
 have lv:v < B9:=by rw [←hv];exact dg9 hvs _
 have lz:z < B9:=by rw [←hz];exact dg9 h.dig _
 obtain ⟨p,s,q,hp,hs,hq,hpl,hsl,hqt,hcase⟩:=jqm ht lv h.car lz;obtain ⟨P,m1,m2,m3,m4,m5,m6,m7⟩:=jnr ht lv lz h.car hp hpl hs hq;rw [Nat.add_comm] at hz;refine ⟨P,p,s,q,m1,m2,m3,m4,m5,m6,m7, ?_⟩;rcases hcase with ⟨a1,a2,a3⟩|⟨a1,a2,a3,a4⟩
 ·obtain ⟨d,hd⟩:∃d,z - s=d:=⟨_,rfl⟩;rw [hd] at a2 a3;obtain ⟨b1,b2⟩:=juw lz a1 hd;refine .inl ⟨d,b1,b2,qh ?_⟩;rw [Nat.add_comm i j];exact h.step (by rw [hl,Nat.add_comm];exact hi) a2 (by rw [hv,hp,hz];exact a3) hqt
 ·obtain ⟨d,hd⟩:∃d,z+B9 - s=d:=⟨_,rfl⟩;obtain ⟨b1,b2,b3,b4⟩:=juv lz hsl a1 hd a4 ht;rw [hd] at a2 a3;refine .inr ⟨d,_,b1,b2,b3,b4,qh ?_⟩;rw [Nat.add_comm i j];exact h.step (by rw [hl,Nat.add_comm];exact hi) a2 (by rw [hv,hp,hz];exact a3) a4
theorem jiJ {x y:Int} (h:wrap64 x=y):IntKind.i64.wrap x=y:=by rw [←h,IntKind.wrap_i64];simp only [wrap64]
theorem jm2 {z v c:Nat} (hz:z < B9) (hv:v < B9) (hc:c≤1):IntKind.i64.wrap ((z:Int)+(v:Int))=((z+v:Nat):Int)∧IntKind.i64.wrap (((z+v:Nat):Int)+(c:Int))=((z+v+c:Nat):Int)∧(z+v+c) / B9≤1:=by
 rw [jaq] at*;exact ⟨by rw [IntKind.wrap_i64];omega,by rw [IntKind.wrap_i64];omega,by omega⟩
theorem juV {q:Nat} (h:q < 9223372036854775808):wrap64 (q:Int)=(q:Int):=by unfold wrap64;omega
theorem jlA {ws xs vs:List Nat} {j i c v z N:Nat} (h:Back9 ws xs vs j i c) (hl:ws.length=N) (hi:i+j < N) (hvs:Pos.Dig B9 vs) (hv:dg vs i=v) (hz:dg xs (i+j)=z):
  ∃Y x d q:Nat,IntKind.i64.wrap ((z:Int)+(v:Int))=(Y:Int)∧IntKind.i64.wrap ((Y:Int)+(c:Int))=(x:Int)∧(x:Int) % 1000000000=(d:Int)∧(x:Int) / 1000000000=(q:Int)∧(x:Int).tmod 1000000000=(d:Int)∧(x:Int).tdiv 1000000000=(q:Int)∧wrap64 (q:Int)=(q:Int)∧Hd (Back9 ws (xs.set (i+j) d) vs j (i+1) q):=by
 have lv:v < B9:=by rw [←hv];exact dg9 hvs _
 have lz:z < B9:=by rw [←hz];exact dg9 h.dig _
 obtain ⟨m1,m2,m3⟩:=jm2 lz lv h.car;rw [Nat.add_comm] at hz;refine ⟨_,_,(z+v+c) % B9,(z+v+c) / B9,m1,m2,rfl,rfl,rfl,rfl,juV (Nat.lt_of_le_of_lt m3 (by decide)),qh ?_⟩;rw [Nat.add_comm i j];exact h.step (by rw [hl,Nat.add_comm];exact hi) (Nat.mod_lt _ jal) (by rw [Nat.mod_add_div,hz,hv]) m3
theorem jnv {z c:Nat} (h:z=c):wrap64 ((z:Int) - (c:Int))=0:=by subst h;unfold wrap64;omega
theorem jp2 {z c t:Nat} (h:c=z+1) (h0:0 < t) (ht:t≤B9):wrap64 ((z:Int) - (c:Int))= -1∧wrap64 ((t:Int) - 1)=((t - 1:Nat):Int):=by
 rw [jaq] at ht;subst h;exact ⟨by unfold wrap64;omega,by unfold wrap64;omega⟩
theorem jvj {j:Nat} (h:j < 4294967296):wrap64 ((j:Int) - 1)=(j:Int) - 1:=by unfold wrap64;omega
theorem Urow.drew {W:World} {g N:Nat} {zs:List Int} (h:Urow W g N zs):Urow W.drew g N zs:=⟨h.len,h.lt,h.cell,h.frozen⟩
theorem joP {c:Nat} (h:c=1):wrap64 (-1+(c:Int))=0:=by subst h;unfold wrap64;omega
theorem Urow.eq {W:World} {g N:Nat} {zs ys:List Int} (h:Urow W g N zs) (e:zs=ys):Urow W g N ys:=e ▸ h
theorem jrE {zs:List Int} {p q:Nat} {x:Int} (h:q≠p):(zs.set p x).getD q 0=zs.getD q 0:=by
 rw [List.getD_eq_getElem?_getD,List.getD_eq_getElem?_getD,List.getElem?_set_ne (Ne.symm h)]
theorem jun {zs:List Int} {p:Nat} {x:Int} (h:p < zs.length):(zs.set p x).getD p 0=x:=by
 rw [List.getD_eq_getElem?_getD,List.getElem?_set_self h];rfl
theorem jrk {y f:Nat} (hy:y < B9) (hf:B9 / (y+1)=f):0 < f:=by rw [←hf];exact Nat.div_pos hy (Nat.succ_pos y)
theorem ji4 {y f:Nat} (hy:y < B9) (hf:B9 / (y+1)=f):wrap64 ((y:Int)+1)=((y+1:Nat):Int)∧(1000000000:Int).tdiv ((y+1:Nat):Int)=(f:Int)∧wrap64 (f:Int)=(f:Int)∧(((y+1:Nat):Int)==0)=false∧((y+1:Nat):Int)≠0∧(1000000000:Int) / ((y:Int)+1)=(f:Int):=by
 have h1:f≤B9:=by rw [←hf];exact Nat.div_le_self _ _
 rw [jaq] at*;refine ⟨by unfold wrap64;omega, ?_,by unfold wrap64;omega,by rw [beq_eq_false_iff_ne];omega,by omega, ?_⟩
 ·rw [←hf];rfl
 ·rw [←hf];rfl
theorem Dv.pos {w:World} {A:Option Addr} {n x:Nat} {ds:List Nat} (h:Dv w A n ds) (hx:Pos.nv B9 ds=x) (h0:0 < x):0 < n:=by
 rcases Nat.eq_zero_or_pos n with e|e
 ·exfalso;have hl:=h.len;rw [e] at hl;rw [List.length_eq_zero_iff.1 hl] at hx;simp [Pos.nv] at hx;omega
 ·exact e
theorem jdE {ops:Array Oper} {rest:List Oper} {o:Oper} {a:Act} {Q:Exit→Act→World→Prop} {w:World} {base m b o' c:Nat} {v:Value} {zs:List Int} (hg:o.guard=none) (s y:Operand)
  (ho:o.op= .call { callee:= .builtin .append,args:= #[s,y],argTypes:= #[79,79] }) (hs:a.eval s=v) (hy:a.eval y= .slice (some ⟨b,o',none⟩) m c)
  (h:jbW w base v 0 []) (hl:zs.length=m) (h0:0 < m) (hm:m≤100000) (hb:base≤w.heap.size) (hc:∀j,j < m→w.cell? ⟨b,o'+j,none⟩=some (.int .i64 (zs.getD j 0)))
  (hK:∀g c' w',jbW w' base (.slice (some ⟨g,0,none⟩) m c') m zs→w.grownBy w' v.ownBlock→wpList prog ops Q rest (a.put o.dst (.slice (some ⟨g,0,none⟩) m c')) w'):wpList prog ops Q (o::rest) a w:=by
 obtain ⟨i0,hi,hz0,hz1,hz2⟩:=info_parts Tryz.iint;refine wpList_append_own w hg s y 79 ho base 3 i0 (.int .i64 0) 1 8 underlying79 hi hz0 hz1 hz2 rfl (by decide) v 0 [] hs h ⟨b,o',none⟩ m c (zs.map (Value.int .i64)) hy (by simp [hl]) (fun j u hj=> ?_) (fun u hu=> ?_) (by unfold maxLen;omega) (by omega) hb ?_
 ·obtain ⟨h1,h2⟩:=List.getElem?_eq_some_iff.1 hj
  have hj':j < zs.length:=by simpa using h1
  rw [Addr.add_lit,hc j (by omega),←h2];simp [List.getD_eq_getElem?_getD,List.getElem?_eq_getElem hj']
 ·obtain ⟨x,_,rfl⟩:=List.mem_map.1 hu;rfl
 ·intro v' w' r1 r2 _;rw [Nat.zero_add,List.nil_append] at r1;rcases r1.2 with ⟨_,e⟩|⟨g,c',_,rfl,_⟩
  ·omega
  ·exact hK g c' w' r1 r2
section
variable {w:World} {A A':Option Addr} {n m c c':Nat} {ds es:List Nat}
theorem jge {p:Nat} {f:Nat} (h:Dv w A n ds) (hf:Dv w A' 1 [f]) (hn:n≤20000):Calls prog 89 #[.slice A n c, .slice A' 1 p] w (js6 (Pos.nv B9 ds*f) (n+1) w):=by
 have:=jvL (c:=c) (c':=p) h hf hn (by omega);rwa [Pos.nv_one] at this
theorem jm0 (h:Dv w A m ds) (h':Dv w A' n es) (t:Pos.Trim ds) (t':Pos.Trim es) (hn:2≤n) (hm:m≤20000) (hs:¬Pos.nv B9 ds < Pos.nv B9 es):Calls prog 85 #[.slice A m c, .slice A' n c'] w (jq6 (Pos.nv B9 ds) (Pos.nv B9 es) m c w):=by
 obtain ⟨g,hg⟩:∃g,sgn (((Pos.nv B9 ds:Nat):Int) - ((Pos.nv B9 es:Nat):Int))=g:=⟨_,rfl⟩
 have q0:decide (g < 0)=false:=by
  rw [decide_eq_false_iff_not,←hg];unfold sgn;rw [if_neg (by omega)];split <;> omega
 have HC:=qh (fun W (hb:Below w.heap.size w W)=>jcc (w:=W) (c:=c) (c':=c') hg (h.below hb) (h'.below hb) t t')
 have hnm:n≤m:=by
  rcases Nat.lt_or_ge m n with e|e
  ·have:=Pos.nv_lt_of_len jal h.dig t' (by rw [h.len,h'.len];exact e);omega
  ·exact e
 obtain ⟨y,hy⟩:∃y,dg es (n - 1)=y:=⟨_,rfl⟩;have hy9:y < B9:=by rw [←hy];exact dg9 h'.dig _
 obtain ⟨f,hf⟩:∃f,B9 / (y+1)=f:=⟨_,rfl⟩;obtain ⟨d1,d2,d3,d4,d5,d6⟩:=ji4 hy9 hf
 have hfl:f < B9:=(jm4 (us:=[]) (vs:=[]) h.dig h'.dig t' h'.len hn (by rw [h.len];exact hnm) hy hf (Pos.Dig.nil) Pos.Trim.nil) |> fun _=>by
  rw [←hf];exact Nat.div_lt_self jal (by
   have:=t'.last (by rw [h'.len];omega);rw [←hy,gd (by rw [h'.len];omega)];have e:es[es.length - 1]'(by rw [h'.len];omega)=es[n - 1]'(by rw [h'.len];omega):=by simp only [h'.len]
   rw [←e];omega)
 have hpos:0 < Pos.nv B9 ds*f:=Nat.mul_pos (Nat.lt_of_lt_of_le (Pos.nv_pos jal t' (by rw [h'.len];omega)) (by omega)) (jrk hy9 hf);have HPOS:=qh hpos;have H:=qh h;have H':=qh h';have HN:=qh (ai hn (ai hm (ai hnm (ai hy (ai hf (ai t' hfl))))));have p0:((n:Int)==1)=false:=by rw [beq_eq_false_iff_ne];omega
 have p1:(n==1)=false:=by rw [beq_eq_false_iff_ne];omega
 have p2:wrap64 ((n:Int) - 1)=(n:Int) - 1:=by unfold wrap64;omega
 have p3:¬((n:Int) < 1):=by omega
 have p4:¬(n=0):=by omega
 have p5:((n:Int) - 1).toNat=n - 1:=by omega
 have p6:(n:Int) - 1 < (n:Int):=by omega
 clear h h' t t' hs hg hy hy9 hf hfl hn hm hnm hpos;go_enter func85,ntmps85;go_wp2_with (first|((go_at_call 87;(with_reducible refine mo0 (HC.o _ (bq (by with_reducible repeat' first|assumption|constructor|go_size))) fun w1 hb1 hc1 hf1 _=> ?_));obtain ⟨b,o,rfl,hlt,hcell⟩:=(H'.o.below hb1).at_ (by have:=HN.o.1;omega);have hcl:w1.cell? ⟨b,o+(n - 1),none⟩=some (.int .i64 (y:Int)):=by { rw [hcell (n - 1) (by have:=HN.o.1;omega),HN.o.2.2.2.1] };clear hcell)|(go_at_call 89;(with_reducible show Calls _ _ #[.slice (some ⟨b,o,none⟩) _ _,_] _ _);(with_reducible refine (jge (H'.o.below (bq (by with_reducible repeat' first|assumption|constructor|go_size))) (jjW HN.o.2.2.2.2.2.2) (by have:=HN.o;omega)).mono ?_);rintro e2 w2 ⟨V2,n2,c2,vs,rfl,k1,k2,k3,k4,k5,k6,hb2⟩;(try have _:=bm hb2);have HV:=qh (ai k1 (ai k2 (ai k3 (ai k4 k5))));clear k1 k2 k3 k4 k5 k6)|(go_at_call 89;(with_reducible refine (jge (H.o.below (bq (by with_reducible repeat' first|assumption|constructor|go_size))) ((jjW HN.o.2.2.2.2.2.2).below (bq (by with_reducible repeat' first|assumption|constructor|go_size))) (by have:=HN.o;omega)).mono ?_);rintro e3 w3 ⟨U3,n3,c3,us,rfl,k1,k2,k3,k4,k5,k6,hb3⟩;(try have _:=bm hb3);have hn3:0 < n3:=k1.pos k5 HPOS.o;obtain ⟨b3,o3,rfl,hl3,hcell3⟩:=k1.at_ hn3;have HU:=qh (ai k1 (ai k2 (ai k3 (ai k4 (ai k5 (ai k6 hcell3))))));have HO3:=qh (jbW.below (w':=w3) (show jbW (w2.alloc (.cells #[] 3)) w2.heap.size (.slice (some ⟨w2.heap.size,0,none⟩) 0 0) 0 [] from World.ownsRow_made w2 #[] 0 (Nat.le_refl _) (Nat.zero_le _) rfl) hb3);clear k1 k2 k3 k4 k5 k6 hcell3 hl3)|(at_builtin;refine jdE (zs:=iz us) rfl _ _ rfl rfl rfl HO3.o (by rw [jaY];exact HU.o.1.len) hn3 (by have:=HU.o.2.2.2.2.2.1;have:=HN.o.2.1;omega) (by have:=hb3.size;simp at this;omega) (fun j hj=>by rw [HU.o.2.2.2.2.2.2 j hj,jeq]) ?_;intro g4 c4 w4 ho4 hg4))
 clear d1 d2 d3 d4 d5 d6 p0 p1 p2 p3 p4 p5 p6 hcl q0;have HBASE:=qh (show Below w2.heap.size w2 w4 from ((ja5 (Below.refl _ w2) _).trans (hb3.mono (by simp))).trans (jab hg4 (by have:=hb3.size;simp at this;omega) (fun k e=>by cases e;exact Nat.le_refl _)))
 go_loopw [11] (fun v wr=>∃(d N gu cu:Nat),v= .slice (some ⟨gu,0,none⟩) N cu∧N=n3+d∧N≤m+1∧jbW wr w2.heap.size v N (iz (us++List.replicate d 0))∧Below w2.heap.size w2 wr) (fun v _=>match v with | .slice _ k _=>m+1 - k | _=>0)
 case atStart=>exact ⟨0,n3,g4,c4,rfl,rfl,HU.o.2.2.2.2.2.1,by simpa using ho4,HBASE.o⟩
 case round=>
  obtain ⟨d,N,gu,cu,rfl,hN,hNm,hO,hB⟩:=hrel;by_cases hlt:N < m+1
  ·have r0:decide ((N:Int) < (m:Int)+1)=true:=by rw [decide_eq_true_iff];omega
   have r1:wrap64 ((m:Int)+1)=(m:Int)+1:=by have:=HN.o.2.1;unfold wrap64;omega
   have HOW:=qh hO;have HNN:=qh (ai hN (ai hlt (show m≤20000 from HN.o.2.1)));clear hO hN hNm hlt;go_wp2_with (at_builtin;refine jac (x:=0) rfl _ _ rfl rfl rfl rfl (HOW.o.below (bq (by with_reducible repeat' first|assumption|constructor|go_size))) (by rw [jaY,List.length_append,List.length_replicate,HU.o.1.len];exact HNN.o.1.symm) (by have:=HNN.o;omega) (by have:=hB.size;simp;omega) (by simp) ?_;intro g5 c5 w5 ho5 hc5 hg5;clear hc5)
   exact ⟨⟨d+1,N+1,g5,c5,rfl,by have:=HNN.o;omega,by have:=HNN.o;omega,by rw [List.replicate_succ',←List.append_assoc,←jbn];exact ho5,(hB.alloc hB.size _).trans (jab hg5 (by have:=hB.size;simp;omega) HOW.o.ge)⟩,by have:=HNN.o;simp;omega⟩
  ·obtain rfl:N=m+1:=by omega
   have r0:decide (((m+1:Nat):Int) < (m:Int)+1)=false:=by rw [decide_eq_false_iff_not];omega
   have r1:wrap64 ((m:Int)+1)=(m:Int)+1:=by have:=HN.o.2.1;unfold wrap64;omega
   have hd:d=ds.length+1 - us.length:=by rw [H.o.len,HU.o.1.len];omega
   have hNorm:=jm4 H.o.dig H'.o.dig HN.o.2.2.2.2.2.1 H'.o.len HN.o.1 (by rw [H.o.len];exact HN.o.2.2.1) HN.o.2.2.2.1 HN.o.2.2.2.2.1 HU.o.1.dig HU.o.2.2.2.1 HU.o.2.2.2.2.1 HV.o.1.dig HV.o.2.2.2.1 HV.o.2.2.2.2;obtain rfl:n2=n:=HV.o.1.len.symm.trans hNorm.lv;have hDI:=DivI.start hNorm (by rw [H.o.len];exact HN.o.2.2.1) (show us++List.replicate d 0=us++List.replicate (ds.length+1 - us.length) 0 by rw [hd]);rw [H.o.len] at hDI;have hUR:=Urow.own hO (by rw [jaY];exact hDI.lu) (by omega);obtain ⟨u0,hu0⟩:∃u0,us++List.replicate d 0=u0:=⟨_,rfl⟩;rw [hu0] at hDI hUR;have hge:w2.heap.size≤gu:=hO.ge gu rfl;have hO2:=qh hO;have hmk:=fun W=>jgZ (m+1 - n2) (by have:=HN.o.2.1;omega) W
   have ecast:((m+1 - n2:Nat):Int)=(m:Int)+1 - (n2:Int):=by have:=HN.o.2.2.1;omega
   rw [ecast] at hmk;have r2:wrap64 ((m:Int)+1 - (n2:Int))=(m:Int)+1 - (n2:Int):=by have:=HN.o;unfold wrap64;omega
   have r3:wrap64 ((m:Int)+1 - (n2:Int) - 1)=(m:Int)+1 - (n2:Int) - 1:=by have:=HN.o;unfold wrap64;omega
   have HNorm:=qh hNorm;have HDI:=qh hDI;have HUR:=qh hUR;have HBB:=qh hB;have HGE:=qh hge;clear hd hNorm hDI hUR hu0 hO hNm hN hge hB;go_wp2;obtain ⟨bv,ov,rfl,hbv,_⟩:=HV.o.1.at_ (by have:=HN.o.1;omega);obtain ⟨gq,hgq⟩:∃x,wr.heap.size=x:=⟨_,rfl⟩;have hgu:gu < gq:=by rw [←hgq];exact HUR.o.lt
   have hwg:w2.heap.size≤gq:=by rw [←hgq];exact HBB.o.size
   have bA:Below wr.heap.size wr (wr.alloc (.cells (jdV (List.replicate (m+1 - n2) 0)) 3)):=ja5 (Below.refl _ _) _;have UR0:=HUR.o.below bA
   have QR0:Urow (wr.alloc (.cells (jdV (List.replicate (m+1 - n2) 0)) 3)) gq (m+1 - n2) (iz (List.replicate (m+1 - n2) 0)):=by
    rw [←hgq];have hb0:=Blk.new wr 3 (jdV (List.replicate (m+1 - n2) 0));refine ⟨by rw [jaY,List.length_replicate],hb0.lt,fun j hj=> ?_,fun o=>hb0.frozen o⟩;rw [hb0.cell,jfc (by simpa using hj),jqT]
   have bB:Below w2.heap.size w2 (wr.alloc (.cells (jdV (List.replicate (m+1 - n2) 0)) 3)):=HBB.o.trans (bA.mono HBB.o.size);have V0:=HV.o.1.below bB;have b12:Below w1.heap.size w1 w2:=(ja5 (Below.refl _ w1) _).trans (hb2.mono (by simp));have s12:w1.heap.size < w2.heap.size:=by have:=hb2.size;simp at this;omega
   have cf0:(wr.alloc (.cells (jdV (List.replicate (m+1 - n2) 0)) 3)).cell? ⟨w1.heap.size,0,none⟩=some (.int .i64 (f:Int)):=by
    rw [bB.cell (p:=⟨w1.heap.size,0,none⟩) s12,hb2.cell (p:=⟨w1.heap.size,0,none⟩) (by simp)];simp [go_sem]
   have bW0:Below w.heap.size w (wr.alloc (.cells (jdV (List.replicate (m+1 - n2) 0)) 3)):=(hb1.trans (b12.mono hb1.size)).trans (bB.mono (by have:=hb1.size;omega));have s1:w.heap.size≤w1.heap.size:=hb1.size;rw [hgq];obtain ⟨W0,hW0⟩:∃x,wr.alloc (.cells (jdV (List.replicate (m+1 - n2) 0)) 3)=x:=⟨_,rfl⟩;have z0:gq < W0.heap.size:=by rw [←hW0,←hgq];simp
   rw [hW0] at UR0 QR0 V0 cf0 bW0 ⊢;obtain ⟨k,hk⟩:∃k,n2=k+2:=⟨n2 - 2,by have:=HN.o.1;omega⟩;have HNN:=qh (ai HNorm.o (ai hk (ai HN.o.2.1 (ai HN.o.2.2.1 (ai H.o.dig (ai H'.o.dig (Nat.lt_of_lt_of_le (Pos.nv_pos jal HN.o.2.2.2.2.2.1 (by rw [H'.o.len];omega)) (Nat.le_refl _))))))));have HGG:=qh (ai hgu (ai z0 (ai (show bv < w2.heap.size from hbv) (ai HGE.o (ai hwg (ai s12 s1))))));have HW:=qh (ai V0 (ai cf0 bW0))
   have ncu2:n2≤cu∧cu < 9223372036854775808:=by
    rcases hO2.out.2 with ⟨e,_⟩|⟨g',cap,cur,e,_,_,h1,h2,_⟩
    ·cases e
    ·cases e;have:=HN.o.2.2.1;unfold maxLen at h2;omega
   have ncu:=ncu2.1;have HCU:=qh ncu2;clear ncu2;clear hb1 hc1 hf1 hb2 hb3 hn3 HU HO3 ho4 HBASE r0 r1 r2 HC HV H H' hg4 hgq hgu hwg bA bB V0 b12 s12 cf0 bW0 s1 hW0 z0 HBB HGE HUR hk hmk hbv hO2 HN HNorm
   go_loopw [13] (fun v wx=>∃(J:Nat) (us' qs:List Nat),v= .int .i64 ((J:Int) - 1)∧Hd (DivI us' qs vs (Pos.nv B9 ds*f) (m+1) n2 J)∧Urow wx gu (m+1) (iz us')∧Urow wx gq (m+1 - n2) (iz qs)∧Two W0 wx gu gq) (fun v _=>(intOf v+1).toNat)
   case atStart=>exact ⟨m+1 - n2,u0,List.replicate (m+1 - n2) 0,by rw [r3,ecast],HDI,UR0,QR0,Two.refl _ _ _⟩
   case round=>
    clear HDI UR0 QR0 r3 ecast;obtain ⟨J,us',qs,rfl,HD,hU,hQ,hT⟩:=hrel;cases J with
    | zero=>
      have q0:decide ((0:Int)≤((0:Nat):Int) - 1)=false:=by decide
      have hfin:=HD.o.fin HNN.o.1.f0 rfl HNN.o.1.V HNN.o.2.2.2.2.2.2;have hf1:=HNN.o.1.f0;have hf2:=HNN.o.1.flt;have hjn:=HD.o.jn;have hdu:=(hU.dv (Nat.lt_of_le_of_lt (Nat.succ_le_succ HNN.o.2.2.1) (by decide)) HD.o.du).take (k:=n2) (by rw [Nat.zero_add] at hjn;exact hjn);have hdq:=hQ.dv (Nat.lt_of_le_of_lt (Nat.le_trans (Nat.sub_le _ _) (Nat.succ_le_succ HNN.o.2.2.1)) (by decide)) HD.o.dq;have cf:=hT.cell (show w1.heap.size < W0.heap.size by have:=HGG.o;omega) (by have:=HGG.o;omega) (by have:=HGG.o;omega) HW.o.2.1;have bX:Below w.heap.size w wr:=hT.below HW.o.2.2 (by have:=HGG.o;omega) (by have:=HGG.o;omega);have hfl:w1.heap.size < wr.heap.size:=Nat.lt_of_lt_of_le (by have:=HGG.o;omega) hT.size;have HQ:=qh (ai hdq (show m+1 - n2 < 9223372036854775808 from Nat.lt_of_le_of_lt (Nat.le_trans (Nat.sub_le _ _) (Nat.succ_le_succ HNN.o.2.2.1)) (by decide)));have HU:=qh (ai hdu (ai hf1 hf2));have HFIN:=qh hfin;clear hfin hf1 hf2 hjn hdu hdq hU hQ hT HD;go_upto_region 40 with (fail)
      refine ja1 (fun w'=>Below wr.heap.size wr w') [] (by kernel_rfl) ?_;refine tl [(0,[], .slice (some ⟨gu,0,none⟩) (m+1) cu),(1,[], .int .i64 (n2:Int)),(2,[], .slice (some ⟨gu,0,none⟩) n2 cu)] [_,_,_] rfl (by kernel_rfl) pk5 (by intros;simp only [tyq,ppq];go_simp) bq0 ?_;simp only [tlq,ppq];refine tl [(4,[], .slice (some ⟨w1.heap.size,0,none⟩) 1 1),(5,[], .pointer (some ⟨w1.heap.size,0,none⟩)),(6,[], .int .i64 (f:Int))] [_,_,_] rfl (by kernel_rfl) pk5 (by intros;simp only [tyq,ppq];go_simp) bq0 ?_;simp only [tlq,ppq];refine rd1 3 (by kernel_rfl) rfl (fun K hK=> ?_);go_simp;go_wp2_with (go_at_call 120;(with_reducible refine (jmy (HU.o.1.below (bq (by with_reducible repeat' first|assumption|constructor|go_size))) HCU.o.1 HCU.o.2).mono ?_);rintro e5 w5 ⟨k5,rfl,h1,h2,h3,hb5⟩;(try have _:=bm hb5);have H5:=qh (ai h1 (ai h2 h3));clear h1 h2 h3)
      have sS5:=qh (bst bq0 hb5);refine hK.out _ _ (fun _=>sS5.o) ?_;clear hK K;refine rd1 7 (by kernel_rfl) rfl (fun K hK=> ?_);go_simp;go_wp2_with (go_at_call 132;(with_reducible refine (jjq ((HU.o.1.take H5.o.1).below (bq (by with_reducible repeat' first|assumption|constructor|go_size))) HU.o.2.1 HU.o.2.2).mono ?_);rintro e6 w6 ⟨k6,rs,rr,rfl,h1,h2,h3,h4,hb6⟩;(try have _:=bm hb6);have H6:=qh (ai h1 (ai h2 (ai h3 h4)));clear h1 h2 h3 h4)
      have sS6:=qh (bst sS5.o hb6);refine hK.out _ _ (fun _=>sS6.o) ?_;clear hK K;refine rd1 8 (by kernel_rfl) rfl (fun K hK=> ?_);go_simp;refine hK.out _ _ (fun _=>(bq (by with_reducible repeat' first|assumption|constructor|go_size))) ?_;clear hK K;refine tl [(9,[], .slice (some ⟨w5.heap.size,0,none⟩) k6 k5),(10,[], .int .i64 (rr:Int))] [_,_] rfl (by kernel_rfl) pk5 (by intros;simp only [tyq,ppq];go_simp) sS6.o ?_;simp only [tlq,ppq];refine rd1 11 (by kernel_rfl) rfl (fun K hK=> ?_);go_simp;refine hK.out _ _ (fun _=>(bq (by with_reducible repeat' first|assumption|constructor|go_size))) ?_;clear hK K;refine rd1 12 (by kernel_rfl) rfl (fun K hK=> ?_);go_simp;refine hK.out _ _ (fun _=>(bq (by with_reducible repeat' first|assumption|constructor|go_size))) ?_;clear hK K;refine ja2 (by kernel_rfl) ?_ _;go_wp2_with (go_at_call 120;(with_reducible refine (jmy (HQ.o.1.below (bq (by with_reducible repeat' first|assumption|constructor|go_size))) (Nat.le_refl _) HQ.o.2).mono ?_);rintro e7 w7 ⟨k7,rfl,h1,h2,h3,hb7⟩;(try have _:=bm hb7);have H7:=qh (ai h1 (ai h2 h3));clear h1 h2 h3)
      go_ret2;exact ⟨some ⟨gq,0,none⟩,k7,m+1 - n2,some ⟨w5.heap.size,0,none⟩,k6,k5,qs.take k7,rs,rfl,(HQ.o.1.take H7.o.1).below (bq (by with_reducible repeat' first|assumption|constructor|go_size)),H7.o.2.1,by rw [H7.o.2.2,HFIN.o.1],H6.o.1.below (bq (by with_reducible repeat' first|assumption|constructor|go_size)),H6.o.2.1,by rw [H6.o.2.2.1,H5.o.2.2,HFIN.o.2],fun _ _=>⟨⟨H7.o.1,HQ.o.2⟩,H6.o.2.2.2,Nat.lt_of_le_of_lt H5.o.1 (Nat.lt_of_le_of_lt HCU.o.1 HCU.o.2)⟩,ja0 bX (bq (by with_reducible repeat' first|assumption|constructor|go_size))⟩
    | succ j=>
      have q0:decide ((0:Int)≤((j+1:Nat):Int) - 1)=true:=by rw [decide_eq_true_iff];omega
      have hi1:((j+1:Nat):Int) - 1=(j:Int):=by omega
      rw [hi1] at q0 ⊢;have hjn:j+n2 < m+1:=by have:=HD.o.jn;omega
      have HUU:=qh hU;have HQQ:=qh hQ;have HTT:=qh hT;have hvx:=hT.dv (show bv < W0.heap.size by have:=HGG.o;omega) (by have:=HGG.o;omega) (by have:=HGG.o;omega) HW.o.1;have HVX:=qh hvx;have HJ:=qh hjn;clear hi1 hU hQ hT hvx hjn;go_wp2_with (go_at_call 133;(with_reducible refine (jug (HUU.o.dv (by have:=HNN.o;omega) HD.o.du) HVX.o HNN.o.2.1 HJ.o (by have:=HNN.o.2.2.1;omega) (HD.o.gs2 HNN.o.2.1 HNN.o.1.dv HNN.o.1.lv HNN.o.1.norm)).mono ?_);rintro e5 w5 ⟨t,rfl,hgd,hb5⟩;(try have _:=bm hb5);have HGD:=qh (hgd.at2 HNN.o.2.1);clear hgd)
      have HU5:=qh (HUU.o.below hb5);have HQ5:=qh (HQQ.o.below hb5);have HT5:=qh (HTT.o.more hb5);clear HUU HQQ HTT HVX hb5
      go_loopw [15,16] (fun b i wy=>∃(i' c1:Nat) (ws:List Nat),b= .int .i64 (c1:Int)∧i= .int .i64 (i':Int)∧i'≤n2∧Hd (Take9 us' ws vs j t i' c1)∧Urow wy gu (m+1) (iz ws)∧Urow wy gq (m+1 - n2) (iz qs)∧Two W0 wy gu gq) (fun _ i _=>n2 - (intOf i).toNat)
      case atStart=>exact ⟨0,0,us',rfl,rfl,Nat.zero_le _,qh (Take9.start vs j t HD.o.du),HU5.o,HQ5.o,HT5.o⟩
      case round=>
       clear HU5 HQ5 HT5;obtain ⟨i,c1,ws,rfl,rfl,hin,HTK,hU,hQ,hT⟩:=hrel;have hJ:=HJ.o;by_cases hi:i < n2
       ·have r0:decide (i < n2)=true:=by simpa using hi
        have hij:i+j < m+1:=Nat.lt_trans (by rw [Nat.add_comm i j];exact Nat.add_lt_add_left hi j) hJ;have m12:=jtf (i:=i) (Nat.lt_of_lt_of_le hi (Nat.le_trans HNN.o.2.2.2.1 (Nat.le_trans HNN.o.2.2.1 (by decide))));have hvx:=hT.dv (show bv < W0.heap.size by have:=HGG.o;omega) (by have:=HGG.o;omega) (by have:=HGG.o;omega) HW.o.1;obtain ⟨b',o',e',hb',hcv⟩:=hvx.at_ (by omega);cases e'
        have cv:=hcv i hi;have cz:=hU.cell (i+j) hij;rw [jeq] at cz;obtain ⟨v,hv⟩:∃v,dg vs i=v:=⟨_,rfl⟩;obtain ⟨z,hz⟩:∃z,dg ws (i+j)=z:=⟨_,rfl⟩;rw [hv] at cv;rw [hz] at cz;have fz:=hU.frozen (i+j);obtain ⟨x1,x2,x3,x4⟩:=jnu hij (Nat.le_trans (Nat.succ_le_succ HNN.o.2.2.1) (by decide));have hgl:=hU.lt;have hst:=fun d:Nat=>hU.set (p:=i+j) hij (d:Int)
        have hqf:=fun d:Nat=>hQ.far (p:=⟨gu,i+j,none⟩) (Nat.ne_of_gt HGG.o.1) (.int .i64 (d:Int))
        have htf:=fun d:Nat=>hT.set (p:=⟨gu,i+j,none⟩) (.inl rfl) (.int .i64 (d:Int))
        simp only [jdS] at hst;have HSS:=qh (ai hst (ai hqf (ai htf hi)));obtain ⟨P,p,s,q,m1,m2,m3,m4,m5,m6,m7,hcase⟩:=jkR HTK.o HD.o.lu hij HGD.o.2.2 hvx.dig hv hz;clear hst hqf htf hv hz hvx hcv hU hQ hT HTK hin;have HX:=qh (ai x1 (ai x2 (ai (show (i:Int)+(j:Int) < (m:Int)+1 by simpa using x3) (ai x4 hij))));have HM:=qh (ai m3 (ai m4 (ai m5 (ai m6 m7))));have HI:=qh m12;clear x1 x2 x3 x4 m3 m4 m5 m6 m7 m12 hij;rcases hcase with ⟨d,m8,m9,HK⟩|⟨d,X,m8,m9,m10,m11,HK⟩
        ·have HQ:=qh (ai m8 m9);clear m8 m9;go_upto_region 22 with (fail)
         (try simp only [m1,m2])
         clear m1 m2 cv;have m8:=HQ.o.1;have m3:=HM.o.1;have m5:=HM.o.2.2.1;obtain ⟨x1,x2,x3,x4,x5⟩:=HX.o;go_upto_region 23 with (fail)
         (try simp only [m3,m5,m8])
         clear m8 m3 m5 x1 x2 x3 x4 x5;have m4:=HM.o.2.1;have m6:=HM.o.2.2.2.1;have m7:=HM.o.2.2.2.2;go_upto_region 24 with (fail)
         (try simp only [m4,m6,m7])
         clear m4 m6 m7;have m9:=HQ.o.2;go_upto_region 27 with (fail)
         clear m9;obtain ⟨x1,x2,x3,x4,x5⟩:=HX.o;go_upto_region 20 with (fail)
         clear x1 x2 x3 x4 x5;have m12:=HI.o;go_wp2;exact ⟨⟨i+1,q,ws.set (i+j) d,by first|rfl|rw [HM.o.2.2.2.2],by first|rfl|rw [m12];rfl,HSS.o.2.2.2,HK,HSS.o.1 d,HSS.o.2.1 d,HSS.o.2.2.1 d⟩,by (try rw [m12]);exact Nat.sub_lt_sub_left HSS.o.2.2.2 (Nat.lt_succ_self i)⟩
        ·have HQ:=qh (ai m8 (ai m9 (ai m10 m11)));clear m8 m9 m10 m11;go_upto_region 22 with (fail)
         (try simp only [m1,m2])
         clear m1 m2 cv;have m8:=HQ.o.1;have m3:=HM.o.1;have m5:=HM.o.2.2.1;obtain ⟨x1,x2,x3,x4,x5⟩:=HX.o;go_upto_region 23 with (fail)
         (try simp only [m3,m5,m8])
         clear m8 m3 m5 x1 x2 x3 x4 x5;have m4:=HM.o.2.1;have m6:=HM.o.2.2.2.1;have m7:=HM.o.2.2.2.2;go_upto_region 24 with (fail)
         (try simp only [m4,m6,m7])
         clear m4 m6 m7;have m9:=HQ.o.2.1;go_upto_region 25 with (fail)
         clear m9;have m10:=HQ.o.2.2.1;go_upto_region 26 with (fail)
         (try simp only [m10])
         clear m10;have m11:=HQ.o.2.2.2;go_upto_region 27 with (fail)
         (try simp only [m11])
         clear m11;obtain ⟨x1,x2,x3,x4,x5⟩:=HX.o;go_upto_region 20 with (fail)
         clear x1 x2 x3 x4 x5;have m12:=HI.o;go_wp2;exact ⟨⟨i+1,q+1,ws.set (i+j) d,by first|rfl|rw [HQ.o.2.2.2],by first|rfl|rw [m12];rfl,HSS.o.2.2.2,HK,HSS.o.1 d,HSS.o.2.1 d,HSS.o.2.2.1 d⟩,by (try rw [m12]);exact Nat.sub_lt_sub_left HSS.o.2.2.2 (Nat.lt_succ_self i)⟩
       ·have hie:i=n2:=Nat.le_antisymm hin (Nat.le_of_not_lt hi);subst hie;have r0:decide (i < i)=false:=by simp
        obtain ⟨z,hz⟩:∃z,dg ws (j+i)=z:=⟨_,rfl⟩;have hz':dg us' (j+i)=z:=by rw [←HTK.o.out (j+i) (.inr (Nat.le_refl _))];exact hz
        have cz:=hU.cell (j+i) hJ;rw [jeq,hz] at cz;have fz:=hU.frozen (j+i);obtain ⟨x1,x2,x3,x4⟩:=jnu hJ (Nat.le_trans (Nat.succ_le_succ HNN.o.2.2.1) (by decide));have x3':(j:Int)+(i:Int) < (m:Int)+1:=by simpa using x3
        have hjq:j < m+1 - i:=Nat.lt_sub_of_add_lt hJ;have cq:=hQ.cell j hjq;rw [jeq] at cq;have fq:=hQ.frozen j;have hgl:=hU.lt;have hql:=hQ.lt;have hgne:gq≠gu:=Nat.ne_of_gt HGG.o.1;have hlv:=HNN.o.1.lv;have hVp:0 < sx (dg vs) i:=by rw [jjx (Nat.le_of_eq hlv),HNN.o.1.V];exact Nat.mul_pos HNN.o.2.2.2.2.2.2 HNN.o.1.f0
        have hjn2:j+i < us'.length:=by rw [HD.o.lu];exact hJ
        have hjd:=jvj (j:=j) (Nat.lt_of_lt_of_le (Nat.lt_of_le_of_lt (Nat.le_add_right j i) hJ) (Nat.le_trans (Nat.succ_le_succ HNN.o.2.2.1) (by decide)));have HJD:=qh hjd;have hj2:(j:Int) < ((m+1 - i:Nat):Int):=Int.ofNat_lt.2 hjq;rcases Nat.lt_or_ge z c1 with hzc|hzc
        ·obtain ⟨hzz,ht0⟩:=HTK.o.over hz' HGD.o.2.1 HNN.o.1.dv hzc;obtain ⟨m1,m2⟩:=jp2 hzz ht0 HGD.o.2.2;have hU1:=hU.set (p:=j+i) hJ (-1);have hQ1:=hQ.far (p:=⟨gu,j+i,none⟩) hgne (.int .i64 (-1));have hT1:=hT.set (p:=⟨gu,j+i,none⟩) (.inl rfl) (.int .i64 (-1));have HF:=qh (ai hU1 (ai hQ1 hT1));have HX:=qh (ai x1 (ai x2 (ai x3' (ai x4 hJ))));have HM:=qh (ai m1 m2);have HZ:=qh (ai hzz (ai ht0 (ai hz' (ai hVp (ai hjn2 (ai hjq hj2))))));clear hU1 hQ1 hT1 hzz ht0 hzc hVp hz hz' hU hQ hT hi hin hjn2 hlv hjd x1 x2 x3 x3' x4 m1 m2 cq fq hql hjq hj2;have m1:=HM.o.1;obtain ⟨x1,x2,x3',x4,hJ'⟩:=HX.o;go_upto_region 29 with (fail)
         (try simp only [m1])
         clear m1;go_upto_region 30 with (fail)
         clear x1 x2 x3' x4 hJ';have m2:=HM.o.2;go_upto_region 31 with (fail)
         (try simp only [m2])
         clear m2 cz fz;go_wp2
         go_loopw [19,20] (fun b iv wy=>∃(i2 cb:Nat) (xs:List Nat),b= .int .i64 (cb:Int)∧iv= .int .i64 (i2:Int)∧i2≤i∧Hd (Back9 ws xs vs j i2 cb)∧Urow wy gu (m+1) ((iz xs).set (j+i) (-1))∧Urow wy gq (m+1 - i) (iz qs)∧Two W0 wy gu gq) (fun _ iv _=>i - (intOf iv).toNat)
         case atStart=>exact ⟨0,0,ws,rfl,rfl,Nat.zero_le _,qh (Back9.start vs j HTK.o.dig),HF.o.1,HF.o.2.1,HF.o.2.2⟩
         case round=>
          clear HF;obtain ⟨i2,cb,xs,rfl,rfl,hin,HTB,hU,hQ,hT⟩:=hrel;by_cases hi:i2 < i
          ·have r1:decide (i2 < i)=true:=by simpa using hi
           have hij:i2+j < m+1:=Nat.lt_trans (by rw [Nat.add_comm i2 j];exact Nat.add_lt_add_left hi j) hJ;have m12:=jtf (i:=i2) (Nat.lt_of_lt_of_le hi (Nat.le_trans HNN.o.2.2.2.1 (Nat.le_trans HNN.o.2.2.1 (by decide))));have hvx:=hT.dv (show bv < W0.heap.size by have:=HGG.o;omega) (by have:=HGG.o;omega) (by have:=HGG.o;omega) HW.o.1;obtain ⟨b',o',e',hb',hcv⟩:=hvx.at_ (Nat.lt_of_le_of_lt (Nat.zero_le _) hi);cases e'
           have cv:=hcv i2 hi;have cz:=hU.cell (i2+j) hij;rw [jrE (by rw [Nat.add_comm j i];exact nl (Nat.add_lt_add_right hi j)),jeq] at cz;obtain ⟨v,hv⟩:∃v,dg vs i2=v:=⟨_,rfl⟩;obtain ⟨z,hz⟩:∃z,dg xs (i2+j)=z:=⟨_,rfl⟩;rw [hv] at cv;rw [hz] at cz;have fz:=hU.frozen (i2+j);obtain ⟨x1,x2,x3,x4⟩:=jnu hij (Nat.le_trans (Nat.succ_le_succ HNN.o.2.2.1) (by decide));have x3':(i2:Int)+(j:Int) < (m:Int)+1:=by simpa using x3
           have x1':IntKind.i64.wrap ((i2:Int)+(j:Int))=(i2:Int)+(j:Int):=jiJ x1;have hgl:=hU.lt;have hbl:=hvx.at_ (Nat.lt_of_le_of_lt (Nat.zero_le _) hi);have hne:j+i≠i2+j:=by rw [Nat.add_comm j i];exact Nat.ne_of_gt (Nat.add_lt_add_right hi j)
           obtain ⟨Y,x,d,q,m1,m2,m3,m4,m5,m6,m7,HK⟩:=jlA HTB.o (by rw [HTK.o.len,HD.o.lu]) hij hvx.dig hv hz;have hU1:=(hU.set (p:=i2+j) hij (d:Int)).eq (show _=(iz (xs.set (i2+j) d)).set (j+i) (-1) by rw [List.set_comm _ _ hne,jdS]);have hQ1:=hQ.far (p:=⟨gu,i2+j,none⟩) hgne (.int .i64 (d:Int));have hT1:=hT.set (p:=⟨gu,i2+j,none⟩) (.inl rfl) (.int .i64 (d:Int));have HF:=qh (ai hU1 (ai hQ1 (ai hT1 hi)));have HX:=qh (ai x1 (ai x2 (ai x3' (ai x4 hij))));have HM:=qh (ai m3 (ai m4 (ai m5 (ai m6 m7))));have HI:=qh m12;have hbvl:bv < wr.heap.size:=hb';clear hU1 hQ1 hT1 hv hz hvx hcv hU hQ hT HTB hin x3 m3 m4 m5 m6 m7 m12 hbl hb' hne;go_upto_region 35 with (fail)
           refine ja1 (fun w'=>Below wr.heap.size wr w') [] (by kernel_rfl) ?_;refine tl [(0,[], .slice (some ⟨gu,0,none⟩) (m+1) cu),(1,[], .int .i64 (i2:Int)),(2,[], .int .i64 (j:Int))] [_,_,_] rfl (by kernel_rfl) pk5 (by intros;simp only [tyq,ppq];go_simp) bq0 ?_;simp only [tlq,ppq];refine tl [(3,[], .int .i64 ((i2:Int)+(j:Int))),(4,[], .pointer (some ⟨gu,i2+j,none⟩)),(5,[], .int .i64 (z:Int))] [_,_,_] rfl (by kernel_rfl) pk5 (by intros;simp only [tyq,ppq];go_simp) bq0 ?_;simp only [tlq,ppq];refine tl [(6,[], .slice (some ⟨bv,ov,none⟩) i c2),(7,[], .int .i64 (i2:Int)),(8,[], .pointer (some ⟨bv,ov+i2,none⟩))] [_,_,_] rfl (by kernel_rfl) pk5 (by intros;simp only [tyq,ppq];go_simp) bq0 ?_;simp only [tlq,ppq];refine tl [(9,[], .int .i64 (v:Int)),(10,[], .int .i64 (Y:Int)),(11,[], .int .i64 (cb:Int))] [_,_,_] rfl (by kernel_rfl) pk5 (by intros;simp only [tyq,ppq];go_simp) bq0 ?_;simp only [tlq,ppq];refine tb 12 (.int .i64 (x:Int)) [] rfl (by kernel_rfl) pk rfl (by intros;go_simp) bq0 ?_;simp only [ppq];refine rd1 13 (by kernel_rfl) rfl (fun K hK=> ?_);go_simp;refine hK.out _ _ (fun _=>(bq (by with_reducible repeat' first|assumption|constructor|go_size))) ?_;clear hK K;refine ja2 (by kernel_rfl) ?_ _;clear m1 m2 x1';have m3:=HM.o.1;have m5:=HM.o.2.2.1;go_upto_region 37 with (fail)
           (try simp only [m3,m5])
           clear m3 m5 x1 x2 x3' x4;have m4:=HM.o.2.1;have m6:=HM.o.2.2.2.1;have m7:=HM.o.2.2.2.2;go_upto_region 34 with (fail)
           (try simp only [m4,m6,m7])
           clear m4 m6 m7;have m12:=HI.o;go_wp2;exact ⟨⟨i2+1,q,xs.set (i2+j) d,by first|rfl|rw [HM.o.2.2.2.2],by first|rfl|rw [m12];rfl,HF.o.2.2.2,HK,HF.o.1.drew,HF.o.2.1.drew,HF.o.2.2.1.drew⟩,by (try rw [m12]);exact Nat.sub_lt_sub_left HF.o.2.2.2 (Nat.lt_succ_self i2)⟩
          ·have hie:i2=i:=Nat.le_antisymm hin (Nat.le_of_not_lt hi);subst hie;have r1:decide (i2 < i2)=false:=by simp
           obtain ⟨hcb,hdone⟩:=HTK.o.wrong HZ.o.2.2.2.2.1 HZ.o.2.2.1 HGD.o.1 HZ.o.2.2.2.1 HGD.o.2.1 HNN.o.1.dv HZ.o.1 HZ.o.2.1 HTB.o;obtain ⟨hDI,htB⟩:=HD.o.step HNN.o.1.lv hdone (by have:=HZ.o.2.2.2.1;rwa [jjx (Nat.le_of_eq HNN.o.1.lv)] at this);have hlen:j+i2 < (iz xs).length:=by rw [jaY,HTB.o.len,HTK.o.len];exact HZ.o.2.2.2.2.1
           have cz:=hU.cell (j+i2) hJ;rw [jun hlen] at cz;have fz:=hU.frozen (j+i2);have hjq:=HZ.o.2.2.2.2.2.1;have hj2:=HZ.o.2.2.2.2.2.2;have cq:=hQ.cell j hjq;rw [jeq] at cq;have fq:=hQ.frozen j;have hgl:=hU.lt;have hql:=hQ.lt;have m1:=joP hcb;have hU1:=((hU.set (p:=j+i2) hJ 0).eq (show _=iz (xs.set (j+i2) 0) by rw [List.set_set];exact jdS xs (j+i2) 0)).far (p:=⟨gq,j,none⟩) (Ne.symm hgne) (.int .i64 ((t - 1:Nat):Int));have hQ1:=((hQ.far (p:=⟨gu,j+i2,none⟩) hgne (.int .i64 0)).set (p:=j) hjq ((t - 1:Nat):Int)).eq (jdS qs j (t - 1));have hT1:=(hT.set (p:=⟨gu,j+i2,none⟩) (.inl rfl) (.int .i64 0)).set (p:=⟨gq,j,none⟩) (.inr rfl) (.int .i64 ((t - 1:Nat):Int));have HF:=qh (ai hDI (ai hU1 (ai hQ1 hT1)));have HM2:=qh m1;obtain ⟨t',ht'⟩:∃x,t - 1=x:=⟨_,rfl⟩;rw [ht'] at HF ⊢;clear hU1 hQ1 hT1 hDI htB hdone hcb hlen m1 hU hQ hT HTB hi hin HZ HTK HD HGD HM ht';have m1:=HM2.o;obtain ⟨x1,x2,x3',x4,hJ'⟩:=HX.o;go_upto_region 39 with (fail)
           (try simp only [m1])
           clear m1 x1 x2 x3' x4 hJ';go_upto_region 15 with (fail)
           have hjd:=HJD.o;go_wp2;exact ⟨⟨j,xs.set (j+i2) 0,qs.set j t',by first|rfl|rw [HJD.o],qh HF.o.1,HF.o.2.1,HF.o.2.2.1,HF.o.2.2.2⟩,by rw [HJD.o];simp [intOf]⟩
        ·obtain ⟨hzz,hdone⟩:=HTK.o.right hjn2 hz' HGD.o.1 hVp HNN.o.1.dv hzc;obtain ⟨hDI,htB⟩:=HD.o.step hlv hdone (by rw [←jjx (Nat.le_of_eq hlv)];exact hVp);have m1:=jnv hzz;have hU1:=((hU.set (p:=j+i) hJ 0).eq (jdS ws (j+i) 0)).far (p:=⟨gq,j,none⟩) (Ne.symm hgne) (.int .i64 (t:Int));have hQ1:=((hQ.far (p:=⟨gu,j+i,none⟩) hgne (.int .i64 0)).set (p:=j) hjq (t:Int)).eq (jdS qs j t);have hT1:=(hT.set (p:=⟨gu,j+i,none⟩) (.inl rfl) (.int .i64 0)).set (p:=⟨gq,j,none⟩) (.inr rfl) (.int .i64 (t:Int));have HF:=qh (ai hDI (ai hU1 (ai hQ1 hT1)));have HX:=qh (ai x1 (ai x2 (ai x3' (ai x4 hJ))));have HM:=qh m1;clear hU1 hQ1 hT1 hDI htB hdone hzz hzc hVp hz hz' hU hQ hT HTK hi hin hjn2 hlv hjd x1 x2 x3 x3' x4 m1 HD HGD;have m1:=HM.o;obtain ⟨x1,x2,x3',x4,hJ'⟩:=HX.o;go_upto_region 29 with (fail)
         (try simp only [m1])
         clear m1;go_upto_region 39 with (fail)
         clear x1 x2 x3' x4;go_upto_region 15 with (fail)
         have hjd:=HJD.o;go_wp2;exact ⟨⟨j,ws.set (j+i) 0,qs.set j t,by first|rfl|rw [HJD.o],qh HF.o.1,HF.o.2.1,HF.o.2.2.1,HF.o.2.2.2⟩,by rw [HJD.o];simp [intOf]⟩
end

section
variable {w:World} {A A':Option Addr} {m n c c':Nat} {ds es:List Nat}
theorem jt5 (h:Dv w A m ds) (h':Dv w A' n es) (t:Pos.Trim ds) (t':Pos.Trim es) (hm:m≤20000) (h0:0 < n):Calls prog 85 #[.slice A m c, .slice A' n c'] w (jq6 (Pos.nv B9 ds) (Pos.nv B9 es) m c w):=by
 by_cases hs:Pos.nv B9 ds < Pos.nv B9 es
 ·exact jfV h h' t t' (.inr hs)
 ·rcases Nat.lt_or_ge 1 n with e|e
  ·exact jm0 h h' t t' e hm hs
  ·exact jfV h h' t t' (.inl (Nat.le_antisymm e h0))
theorem jh8 (h:Dv w A m ds) (h':Dv w A' n es) (t:Pos.Trim ds) (t':Pos.Trim es) (hm:m≤20000) (hn:n≤20000):
  Calls prog 48 #[.slice A m c, .slice A' n c'] w fun e w'=>∃B k d gs,e= .returned (.slice B k d)∧Dv w' B k gs∧Pos.Trim gs∧Pos.nv B9 gs=Nat.gcd (Pos.nv B9 ds) (Pos.nv B9 es)∧Below w.heap.size w w':=by
 obtain ⟨g,hg⟩:∃g,Nat.gcd (Pos.nv B9 ds) (Pos.nv B9 es)=g:=⟨_,rfl⟩;rw [hg];have H:=qh (ai h (ai h' (ai t (ai t' (ai hm (ai hn hg))))));clear h h' t t' hm hn hg;go_enter func48,ntmps48;go_wp2
 go_loopw [0,1,5,6] (fun u v _ _ wr=>∃B k d C j e xs ys,u= .slice B k d∧v= .slice C j e∧Dv wr B k xs∧Dv wr C j ys∧Pos.Trim xs∧Pos.Trim ys∧(k≤20000∧j≤20000)∧Nat.gcd (Pos.nv B9 xs) (Pos.nv B9 ys)=g∧Below w.heap.size w wr) (fun _ v _ _ wr=>valOf wr v)
 case atStart=>exact ⟨A,m,c,A',n,c',ds,es,rfl,rfl,H.o.1,H.o.2.1,H.o.2.2.1,H.o.2.2.2.1,⟨H.o.2.2.2.2.1,H.o.2.2.2.2.2.1⟩,H.o.2.2.2.2.2.2,bi⟩
 case round=>
  obtain ⟨B,k,d,C,j,e,xs,ys,rfl,rfl,hx,hy,tx,ty,hs,hg,hb⟩:=hrel;have _:=bm hb;by_cases hj:j=0
  ·subst hj;obtain rfl:ys=[]:=List.length_eq_zero_iff.1 hy.len;have hg':Pos.nv B9 xs=g:=by simpa [Pos.nv] using hg
   have q0:decide ((0:Int) < ((0:Nat):Int))=false:=by decide
   clear hy ty hs hg;go_wp2;go_ret;exact ⟨B,k,d,xs,rfl,hx,tx,hg',hb⟩
  ·have q0:decide ((0:Int) < (j:Int))=true:=by rw [decide_eq_true_iff];omega
   have q0':decide (0 < j)=true:=by rw [decide_eq_true_iff];omega
   have hpos:=Pos.nv_pos jal ty (by have:=hy.len;omega);have hlt:=Nat.mod_lt (Pos.nv B9 xs) hpos;have hg':Nat.gcd (Pos.nv B9 ys) (Pos.nv B9 xs % Pos.nv B9 ys)=g:=by rw [←hg,Nat.gcd_comm (Pos.nv B9 xs) (Pos.nv B9 ys),Nat.gcd_rec (Pos.nv B9 ys) (Pos.nv B9 xs),Nat.gcd_comm]
   have HC:=qh (fun W (hW:Below wr.heap.size wr W)=>jt5 (w:=W) (c:=d) (c':=e) (hx.below hW) (hy.below hW) tx ty hs.1 (Nat.pos_of_ne_zero hj));have HH:=qh (ai hy (ai ty (ai hs.2 (ai hlt hg'))));clear hx hy tx ty hs hg hj hpos hlt hg';go_wp2_with ((go_at_call 85;(with_reducible refine (HC.o _ bi).mono ?_);rintro e1 w1 ⟨Q,k1,k2,R,j1,j2,qs,rs,rfl,hq,tq',hvq,hr,tr,hvr,_,hb1⟩;have _:=bm hb1;have HR:=qh (ai hr (ai tr hvr));clear hq tq' hvq hr tr hvr))
   refine ⟨⟨C,j,e,R,j1,j2,ys,rs,rfl,rfl,HH.o.1.below hb1,HR.o.1,HH.o.2.1,HR.o.2.1,⟨HH.o.2.2.1, ?_⟩,by rw [HR.o.2.2];exact HH.o.2.2.2.2,bi⟩, ?_⟩
   ·have h1:rs.length≤ys.length:=by
     rcases Nat.lt_or_ge ys.length rs.length with e1|e1
     ·exfalso;have:=Pos.nv_lt_of_len jal HH.o.1.dig HR.o.2.1 e1;rw [HR.o.2.2] at this;exact absurd (Nat.lt_trans this HH.o.2.2.2.1) (Nat.lt_irrefl _)
     ·exact e1
    rw [HR.o.1.len,HH.o.1.len] at h1;exact Nat.le_trans h1 HH.o.2.2.1
   ·rw [HR.o.1.valOf,HH.o.1.valOf,HR.o.2.2];exact HH.o.2.2.2.1
end

theorem Dv.one {w:World} {b:Nat} (h:w.cell? ⟨b,0,none⟩=some (.int .i64 1)) (hb:b < w.heap.size):Dv w (some ⟨b,0,none⟩) 1 [1]:=
 ⟨rfl,fun x hx=>by simp at hx;subst hx;decide,by decide,fun _=>⟨b,0,rfl,by simpa using hb,fun j hj=>by
   obtain rfl:j=0:=by omega
   simpa [dg] using h⟩⟩
section
variable {w:World} {u v:Value} {a b:Int} {L M:Nat}

end

theorem jgs (a:Int):zt a=Lib.itoa a:=by
 unfold zt Lib.itoa;by_cases h:a < 0 <;> simp [h]
 congr 1;omega
theorem jfN {x y:Int} {g:Nat} (hy:0 < y) (hg:Nat.gcd x.natAbs y.natAbs=g):0 < g∧(if decide (x < 0) then -((x.natAbs / g:Nat):Int) else ((x.natAbs / g:Nat):Int))=(Rat.divInt x y).num∧y.natAbs / g=(Rat.divInt x y).den:=by
 obtain ⟨d,rfl⟩:=Int.eq_ofNat_of_zero_le (Int.le_of_lt hy);obtain ⟨h0,h1,h2⟩:=jeO (a:=x) (d:=d) (by omega) hg;refine ⟨h0, ?_, ?_⟩
 ·rw [←h1];by_cases h:x < 0
  ·obtain ⟨n,rfl⟩:∃n:Nat,x= -(n:Int):=⟨x.natAbs,by omega⟩;rw [decide_eq_true h];simp [Int.neg_tdiv]
  ·obtain ⟨n,rfl⟩:∃n:Nat,x=(n:Int):=⟨x.natAbs,by omega⟩;rw [decide_eq_false h];simp
 ·simp only [Int.natAbs_natCast] at hg ⊢;have:((d / g:Nat):Int)=(((Rat.divInt x (d:Int)).den:Nat):Int):=by rw [←h2];simp
  omega
theorem jjI {a:Int} {L:Nat} {ds:List Nat} (hd:Pos.Dig B9 ds) (hv:Pos.nv B9 ds=a.natAbs) (h:ds.length≤L):(zt a).length≤9*L+2:=by
 have h1:(Lib.decDigits a.natAbs).length≤9*L+1:=by
  rcases Nat.eq_zero_or_pos ds.length with e|e
  ·rw [List.length_eq_zero_iff.1 e] at hv;rw [←hv];have:(Lib.decDigits (Pos.nv B9 [])).length=1:=by decide+kernel
   omega
  ·have:=jdx hd e;rw [hv] at this;omega
 unfold zt;split <;> simp <;> omega
theorem jqL {qs:List Nat} (hd:Pos.Dig B9 qs) (ht:Pos.Trim qs) (h:Pos.nv B9 qs=1):qs=[1]:=by
 match qs,hd,ht,h with
 | [],_,_,h=>simp [Pos.nv] at h
 | [a],_,_,h=>simp [Pos.nv] at h;rw [h]
 | a::b::r,hd,ht,h=>
   exfalso;have h0:=Pos.nv_lt_of_len (l:=[1]) (m:=a::b::r) jal (fun x hx=>by simp at hx;subst hx;decide) ht (by simp);rw [h] at h0
   revert h0
   decide
theorem jgT {ds qs:List Nat} {g:Nat} (hd:Pos.Dig B9 ds) (tq:Pos.Trim qs) (h:Pos.nv B9 qs=Pos.nv B9 ds / g):qs.length≤ds.length:=by
 rcases Nat.lt_or_ge ds.length qs.length with e|e
 ·exfalso;have h1:=Pos.nv_lt_of_len jal hd tq e;rw [h] at h1;exact absurd (Nat.lt_of_lt_of_le h1 (Nat.div_le_self _ _)) (Nat.lt_irrefl _)
 ·exact e
theorem jtv (X:Rat):tq X=if X.den=1 then zt X.num else zt X.num++47::Lib.decDigits X.den:=by rw [jgs];rfl
section
variable {w:World} {u v:Value} {x y a b:Int} {L M:Nat}
theorem Rz.below {w w':World} {v:Value} {z:Int} {L:Nat} (h:Rz w v z L) (hb:Below w.heap.size w w'):Rz w' v z L:=by
 obtain ⟨A,n,c,ds,h1,h2,h3⟩:=h;exact ⟨A,n,c,ds,h1,h2.below hb,h3⟩
def FrV (w:World) (X:Rat) (L M:Nat) (V:World):Prop:=
 ∃ x y A n c B m d,0 < y∧Rat.divInt x y=X∧(V.cell? ⟨w.heap.size,0,none⟩=some (.bool (decide (x < 0)))∧V.cell? ⟨w.heap.size,1,none⟩=some (.slice A n c)∧V.cell? ⟨w.heap.size+1,0,none⟩=some (.bool false)∧V.cell? ⟨w.heap.size+1,1,none⟩=some (.slice B m d))∧
   Rz V (.agg #[.bool (decide (x < 0)), .slice A n c]) x L∧Rz V (.agg #[.bool (decide (y < 0)), .slice B m d]) y M∧Below w.heap.size w V
theorem jb5 (h:Rz w u a L) (h':Rz w v b M) (hL:L≤20000) (hM:M≤20000) (hb:b≠0):Calls prog 40 #[u,v] w fun e w'=>e= .returned (bs (tq (Rat.divInt a b)))∧Below w.heap.size w w':=by
 obtain ⟨x9,hx9⟩:∃x, -a=x:=⟨_,rfl⟩;obtain ⟨y9,hy9⟩:∃y, -b=y:=⟨_,rfl⟩;have HM1:=qh (fun W (hb:Below w.heap.size w W)=>hx9 ▸ jhJ (h.below hb));have HM2:=qh (fun W (hb:Below w.heap.size w W)=>hy9 ▸ jhJ (h'.below hb));have HXY:=qh (ai hx9 hy9);clear hx9 hy9;obtain ⟨X,hX⟩:∃X,Rat.divInt a b=X:=⟨_,rfl⟩;rw [hX];have hR:=jtv X;obtain ⟨R,hR1⟩:∃R,tq X=R:=⟨_,rfl⟩;rw [hR1] at hR ⊢;clear hR1;have HRR:=qh hR;have HXX:=qh (ai hX (ai h (ai h' hb)));clear hR hX;obtain ⟨A0,n0,c0,ds0,rfl, -, -, -, -, -, -⟩:=h;obtain ⟨B0,m0,d0,es0,rfl, -, -, -, -, -, -⟩:=h';obtain ⟨s0,hs0⟩:∃s,decide (a < 0)=s:=⟨_,rfl⟩;obtain ⟨t0,ht0⟩:∃s,decide (b < 0)=s:=⟨_,rfl⟩;rw [hs0] at HM1 HXX ⊢;rw [ht0] at HM2 HXX ⊢;have HS:=qh (ai hs0 ht0);clear hs0 ht0 hb;have HH:=qh (ai hL hM);clear hL hM;go_enter func40,ntmps40;go_upto_region 1 with (fail)
 obtain ⟨V,hV⟩:∃V,(w.alloc (.cells #[.bool s0, .slice A0 n0 c0] 81)).alloc (.cells #[.bool t0, .slice B0 m0 d0] 81)=V:=⟨_,rfl⟩;have v1:V.cell? ⟨w.heap.size,0,none⟩=some (.bool s0):=by rw [←hV];simp [go_sem]
 have v2:V.cell? ⟨w.heap.size,1,none⟩=some (.slice A0 n0 c0):=by rw [←hV];simp [go_sem]
 have v3:V.cell? ⟨w.heap.size+1,0,none⟩=some (.bool t0):=by rw [←hV];simp [go_sem]
 have v4:V.cell? ⟨w.heap.size+1,1,none⟩=some (.slice B0 m0 d0):=by rw [←hV];simp [go_sem]
 have bV:Below w.heap.size w V:=by rw [←hV];exact bi
 have zV0:w.heap.size < V.heap.size:=by rw [←hV];simp;omega
 have zV1:w.heap.size+1 < V.heap.size:=by rw [←hV];simp
 have HB0:=qh (show Blk V w.heap.size 81 #[.bool s0, .slice A0 n0 c0] from by
  rw [←hV]
  exact (Blk.new w 81 #[.bool s0, .slice A0 n0 c0]).below bi)
 have HB1:=qh (show Blk V (w.heap.size+1) 81 #[.bool t0, .slice B0 m0 d0] from by
  rw [←hV];have:=Blk.new (w.alloc (.cells #[.bool s0, .slice A0 n0 c0] 81)) 81 #[.bool t0, .slice B0 m0 d0]
  simpa using this)
 rw [hV];clear hV
 go_upto_if 12 with (fail)
 go_cut [] (fun wx=>FrV w X L M wx)
 case first=>
  cases t0 with
  | false=>
    have HV:=qh (ai (ai v1 (ai v2 (ai v3 v4))) bV);clear v1 v2 v3 v4;go_wp2;go_meet;obtain ⟨h1,h2,h3,h4⟩:=HXX.o;have hb0:=of_decide_eq_false HS.o.2;exact ⟨a,b,A0,n0,c0,B0,m0,d0,by omega,h1,by rw [HS.o.1];exact HV.o.1,by rw [HS.o.1];exact h2.below HV.o.2,by rw [HS.o.2];exact h3.below HV.o.2,HV.o.2⟩
  | true=>
    go_wp2;refine ja1 (fun w'=>Below V.heap.size V w') [4,5] (by kernel_rfl) ?_;refine tl [(0,[1], .agg #[.bool s0, .slice A0 n0 c0]),(2,[3], .agg #[.bool true, .slice B0 m0 d0])] [_,_] rfl (by kernel_rfl) pk5 (by intros;simp only [tyq,ppq];go_simp) bq0 ?_;simp only [tlq,ppq];refine rd1 1 (by kernel_rfl) rfl (fun K hK=> ?_);go_simp;go_wp2_with (go_at_call 84;(with_reducible refine (HM1.o _ (ja0 bV bi)).mono ?_);rintro e3 w3 ⟨r3,rfl,⟨A,n,c,ds,rfl,x1,x2⟩,hb3⟩;have _:=bm hb3;have H3:=qh (ai x1 x2);clear x1 x2)
    have sS3:=qh (bst bq0 hb3);refine hK.out _ _ (fun _=>sS3.o) ?_;clear hK K;refine rd1 3 (by kernel_rfl) rfl (fun K hK=> ?_);go_simp;go_wp2_with (go_at_call 84;(with_reducible refine (HM2.o _ (ja0 bV bi)).mono ?_);rintro e4 w4 ⟨r4,rfl,⟨B,m,d,es,rfl,x1,x2⟩,hb4⟩;have _:=bm hb4;have H4:=qh (ai x1 x2);clear x1 x2)
    have sS4:=qh (bst sS3.o hb4);refine hK.out _ _ (fun _=>sS4.o) ?_;clear hK K;have HC0:=HB0.o.below sS4.o;have HC1:=HB1.o.below sS4.o;obtain ⟨f0,f1,f01⟩:=jag HC0;obtain ⟨f2,f3,f23⟩:=jag HC1;have kf0:=HC0.frozen;have kf1:=HC1.frozen;refine rd1 4 (by kernel_rfl) rfl (fun K hK=> ?_);go_simp;refine hK.out _ _ (fun h=>(h (by decide)).elim) ?_;clear hK K;refine rd1 5 (by kernel_rfl) rfl (fun K hK=> ?_);go_simp;refine hK.out _ _ (fun h=>(h (by decide)).elim) ?_;clear hK K;refine ja2 (by kernel_rfl) ?_ _;go_wp2;go_meet;have o0:=(H3.o.1.below hb4).off f0 f1 (fun _ _ e=>by cases e) f01;have o1:=(H3.o.1.below hb4).off f2 f3 (fun _ _ e=>by cases e) f23;have p0:=H4.o.1.off f0 f1 (fun _ _ e=>by cases e) f01;have p1:=H4.o.1.off f2 f3 (fun _ _ e=>by cases e) f23;have hb0:=of_decide_eq_true HS.o.2;have _:=bm (ja0 bV sS4.o);have hy9:=HXY.o.2;have hs:decide (y9 < 0)=false:=by rw [decide_eq_false_iff_not];omega
    rw [hs];refine ⟨x9,y9,A,n,c,B,m,d,by omega,by rw [←HXY.o.1,←HXY.o.2,Rat.neg_divInt_neg];exact HXX.o.1, ?_,⟨A,n,c,ds,rfl, ?_,H3.o.2⟩,⟨B,m,d,es,rfl, ?_,H4.o.2⟩,bi⟩
    ·refine ⟨?_, ?_, ?_, ?_⟩ <;> simp [go_sem,f0,f1,f2,f3]
    ·exact ((((H3.o.1.below hb4).far2 (p:=⟨w.heap.size,0,none⟩) o0 _).far2 (p:=⟨w.heap.size,1,none⟩) o0 _).far2 (p:=⟨w.heap.size+1,0,none⟩) o1 _).far2 (p:=⟨w.heap.size+1,1,none⟩) o1 _
    ·exact (((H4.o.1.far2 (p:=⟨w.heap.size,0,none⟩) p0 _).far2 (p:=⟨w.heap.size,1,none⟩) p0 _).far2 (p:=⟨w.heap.size+1,0,none⟩) p1 _).far2 (p:=⟨w.heap.size+1,1,none⟩) p1 _
 case rest=>
  rename World=>V
  obtain ⟨x,y,A,n,c,B,m,d,hy,hX,⟨v1,v2,v3,v4⟩,⟨A',n',c',ds,e1,hdV,ht,hv,hn,hc,hl⟩,⟨B',m',d',es,e2,hdV',ht',hv',hn',hc',hl'⟩,bV⟩:=hcut;cases e1
  cases e2
  obtain ⟨hL,hM⟩:=HH.o;have zV0:w.heap.size < V.heap.size:=World.block_lt_of_cell? V _ v1;have zV1:w.heap.size+1 < V.heap.size:=World.block_lt_of_cell? V _ v3;obtain ⟨g,hg⟩:∃g,Nat.gcd x.natAbs y.natAbs=g:=⟨_,rfl⟩;have hf:=jfN hy hg;rw [hX] at hf;have hs:decide (y < 0)=false:=by rw [decide_eq_false_iff_not];omega
  obtain ⟨s,hs1⟩:∃s,decide (x < 0)=s:=⟨_,rfl⟩;rw [hs1] at hf v1;have _:=bm bV;clear HM1 HM2 HXX HXY HH HS HB0 HB1;have HG:=qh ((show Nat.gcd (Pos.nv B9 ds) (Pos.nv B9 es)=g by rw [hv,hv',hg]));have HC:=qh (jh8 (c:=c) (c':=d) hdV hdV' ht ht' (by omega) (by omega));have HP:=qh (fun W (hb:Below V.heap.size V W) G k e gs (h1:Dv W G k gs) (h2:Pos.Trim gs) (h3:Pos.nv B9 gs=g)=>(show Calls prog 85 #[.slice A n c, .slice G k e] W (jq6 (Pos.nv B9 ds) (Pos.nv B9 gs) n c W) from jt5 (hdV.below hb) h1 ht h2 (by omega) (by have:=h1.len;have:=hf.1;rw [←h3] at this;rcases Nat.eq_zero_or_pos k with e|e;(rw [e] at h1;rw [List.length_eq_zero_iff.1 h1.len] at this;simp [Pos.nv] at this);exact e)));have HQ:=qh (fun W (hb:Below V.heap.size V W) G k e gs (h1:Dv W G k gs) (h2:Pos.Trim gs) (h3:Pos.nv B9 gs=g)=>(show Calls prog 85 #[.slice B m d, .slice G k e] W (jq6 (Pos.nv B9 es) (Pos.nv B9 gs) m d W) from jt5 (hdV'.below hb) h1 ht' h2 (by omega) (by have:=h1.len;have:=hf.1;rw [←h3] at this;rcases Nat.eq_zero_or_pos k with e|e;(rw [e] at h1;rw [List.length_eq_zero_iff.1 h1.len] at this;simp [Pos.nv] at this);exact e)));have HX:=qh (ai (fun z (h:z=g)=>(show Pos.nv B9 ds / z=x.natAbs / g by rw [h,hv])) (ai (ai hn hc) (ai (ai hdV.dig hdV.len) hf.2.1)));have HY:=qh (ai (fun z (h:z=g)=>(show Pos.nv B9 es / z=X.den by rw [h,hv',hf.2.2])) (ai (ai hn' hc') (ai (ai hdV'.dig hdV'.len) (ai (show n≤20000 by omega) (show m≤20000 by omega)))));clear hdV ht hv hn hc hl hdV' ht' hv' hn' hc' hl' hg hf hX hs hs1 hL hM hy;go_upto_region 6 with first|((go_at_call 48;(with_reducible refine HC.o.mono ?_);rintro e1 w1 ⟨G,k1,c1,gs,rfl,x1,x2,x3,hb1⟩;have _:=bm hb1;have H1:=qh (ai x1 (ai x2 (x3.trans HG.o)));clear x1 x2 x3;have y2:=(hb1.cell (p:=⟨w.heap.size,1,none⟩) zV0).trans v2;have y4:=(hb1.cell (p:=⟨w.heap.size+1,1,none⟩) zV1).trans v4;have y1:=(hb1.cell (p:=⟨w.heap.size,0,none⟩) zV0).trans v1;have z10:=Nat.lt_of_lt_of_le zV0 hb1.size;have z11:=Nat.lt_of_lt_of_le zV1 hb1.size;have HDP:=qh (HP.o w1 hb1 G k1 c1 gs H1.o.1 H1.o.2.1 H1.o.2.2)))|((go_at_call 85;(with_reducible refine HDP.o.mono ?_);rintro e2 w2 ⟨P,k2,c2,P',k2',c2',ps,ps',rfl,x1,x2,x3, -, -, -,x7,hb2⟩;have _:=bm hb2;have H2:=qh (ai x1 (ai x2 (ai (x3.trans (HX.o.1 _ H1.o.2.2)) (ai (x7 HX.o.2.1.1 HX.o.2.1.2).1 (by have:=jgT HX.o.2.2.1.1 x2 x3;rwa [x1.len,HX.o.2.2.1.2] at this)))));clear x1 x2 x3 x7;have y2':=(hb2.cell (p:=⟨w.heap.size+1,1,none⟩) z11).trans y4;have y1':=(hb2.cell (p:=⟨w.heap.size,0,none⟩) z10).trans y1;have z20:=Nat.lt_of_lt_of_le z10 hb2.size;have hb12:=ja0 hb1 hb2;have HDQ:=qh (HQ.o w2 hb12 G k1 c1 gs (H1.o.1.below hb2) H1.o.2.1 H1.o.2.2)))|((go_at_call 85;(with_reducible refine HDQ.o.mono ?_);rintro e3 w3 ⟨Q,k3,c3,P',k2',c2',qs,ps',rfl,x1,x2,x3, -, -, -,x7,hb3⟩;have _:=bm hb3;have H3:=qh (ai x1 (ai x2 (ai (x3.trans (HY.o.1 _ H1.o.2.2)) (ai (x7 HY.o.2.1.1 HY.o.2.1.2).1 (by have:=jgT HY.o.2.2.1.1 x2 x3;rwa [x1.len,HY.o.2.2.1.2] at this)))));clear x1 x2 x3 x7;have yy1:=(hb3.cell (p:=⟨w.heap.size,0,none⟩) z20).trans y1';have HSP:=qh (jax (w:=w3) (g:=s) (z:=X.num) (H2.o.1.below hb3) H2.o.2.2.2.1.1 H2.o.2.2.2.1.2 (by rw [H2.o.2.2.1];exact HX.o.2.2.2))))
  go_upto_region 7 with first|((go_at_call 73;(with_reducible refine HSP.o.mono ?_);rintro e4 w4 ⟨k4,rfl,h1,h2,h3,h4,hb4⟩;have _:=bm hb4;have HZ4:=qh (show Rz w4 (.agg #[.bool (decide (X.num < 0)), .slice P k4 c2]) X.num 20000 from ⟨P,k4,c2,_,rfl,h1,h2,h3,Nat.le_trans h4 H2.o.2.2.2.1.1,H2.o.2.2.2.1.2,Nat.le_trans h4 (Nat.le_trans H2.o.2.2.2.2 HY.o.2.2.2.1)⟩);have HT4:=qh (ai (jb7 HZ4.o (Nat.le_refl _)) (jjI h1.dig h3 (show _≤20000 by rw [h1.len];exact Nat.le_trans h4 (Nat.le_trans H2.o.2.2.2.2 HY.o.2.2.2.1))));clear h1 h2 h3 h4))|((go_at_call 28;(with_reducible refine mz HT4.o.1 fun w5 hb5 _=> ?_);have hb35:=ja0 hb4 hb5;have H5:=qh (H3.o.1.below hb35)))
  have HL:=qh HT4.o.2;obtain ⟨T,hT⟩:∃T,zt X.num=T:=⟨_,rfl⟩;rw [hT] at HL HRR;rw [hT];clear hT;by_cases h1:X.den=1
  ·have e1:=jqL H3.o.1.dig H3.o.2.1 (H3.o.2.2.1.trans h1);have e2:k3=1:=by rw [←H3.o.1.len,e1];rfl
   subst e2;obtain ⟨b,o,rfl,hbl,hcell⟩:=H5.o.at_ (by omega);have hc0:=hcell 0 (by omega);rw [e1] at hc0;simp only [dg,List.getD_cons_zero,Nat.add_zero] at hc0;have hRT:R=T:=by have:=HRR.o;rwa [if_pos h1] at this
   subst hRT;clear hcell e1 h1;go_wp2;go_ret;exact ⟨rfl,bi⟩
  ·obtain ⟨E,hE⟩:∃E,Lib.decDigits X.den=E:=⟨_,rfl⟩;have HE:=qh (show zt (X.den:Int)=E by rw [jgs,jdn,hE]);have hRT:R=T++47::E:=by have:=HRR.o;rwa [if_neg h1,hE] at this
   subst hRT
   have hEl:E.length≤9*20000+2:=by
    rw [←HE.o];exact jjI H3.o.1.dig (by rw [H3.o.2.2.1];rfl) (by rw [H3.o.1.len];exact Nat.le_trans H3.o.2.2.2.2 HY.o.2.2.2.2)
   have HLL:=qh (ai HL.o hEl);have HSQ:=qh (jax (w:=w5) (g:=false) (z:=(X.den:Int)) H5.o H3.o.2.2.2.1.1 H3.o.2.2.2.1.2 (by rw [H3.o.2.2.1];rfl));by_cases hk:k3=1
   ·subst hk;obtain ⟨b,o,rfl,hbl,hcell⟩:=H5.o.at_ (by omega);have hc0:=hcell 0 (by omega);obtain ⟨y0,hy0⟩:∃y0,dg qs 0=y0:=⟨_,rfl⟩;rw [hy0] at hc0;simp only [Nat.add_zero] at hc0
    have hne:y0≠1:=fun e=>by
     have hl:=H3.o.1.len;have hv:=H3.o.2.2.1
     match qs,hl,hv,hy0 with
     | [a],_,hv,hy0=>
       apply h1;rw [←hv];simp only [dg,List.getD_cons_zero] at hy0;rw [hy0,e];rfl
    have q7:((y0:Int)==1)=false:=by rw [beq_eq_false_iff_ne];omega
    have q8:(y0==1)=false:=by rw [beq_eq_false_iff_ne];exact hne
    clear h1 hE hEl hcell hy0;go_upto_region 9 with (fail)
    have t1:¬(9223372036854775807 < T.length+1):=by have:=HLL.o.1;omega
    have t2:T.length≤9223372036854775806:=by have:=HLL.o.1;omega
    have t3:¬(9223372036854775807 < T.length+1+E.length):=by have:=HLL.o;omega
    have c1:(⟨T.toArray⟩:ByteArray)++⟨#[47]⟩=⟨(T++[47]).toArray⟩:=jaj T [47];have c2:(⟨(T++[47]).toArray⟩:ByteArray)++⟨E.toArray⟩=⟨(T++47::E).toArray⟩:=(jaj (T++[47]) E).trans (by rw [List.append_assoc];rfl);go_wp2_with first|((go_at_call 73;(with_reducible refine HSQ.o.mono ?_);rintro e6 w6 ⟨k6,rfl,h1,h2,h3,h4,hb6⟩;have _:=bm hb6;have HT6:=qh (jb7 (a:=(X.den:Int)) (L:=20000) (⟨_,k6,c3,_,rfl,h1,h2,h3,Nat.le_trans h4 H3.o.2.2.2.1.1,H3.o.2.2.2.1.2,Nat.le_trans h4 (Nat.le_trans H3.o.2.2.2.2 HY.o.2.2.2.2)⟩) (Nat.le_refl _));clear h1 h2 h3 h4))|((go_at_call 28;(with_reducible refine mz HT6.o fun w7 hb7 _=> ?_);rw [HE.o]))
    go_ret;exact ⟨rfl,bi⟩
   ·have q7:((k3:Int)==1)=false:=by rw [beq_eq_false_iff_ne];omega
    have q8:((k3:Nat)==1)=false:=by rw [beq_eq_false_iff_ne];exact hk
    clear h1 hE hEl;go_upto_region 9 with (fail)
    have t1:¬(9223372036854775807 < T.length+1):=by have:=HLL.o.1;omega
    have t2:T.length≤9223372036854775806:=by have:=HLL.o.1;omega
    have t3:¬(9223372036854775807 < T.length+1+E.length):=by have:=HLL.o;omega
    have c1:(⟨T.toArray⟩:ByteArray)++⟨#[47]⟩=⟨(T++[47]).toArray⟩:=jaj T [47];have c2:(⟨(T++[47]).toArray⟩:ByteArray)++⟨E.toArray⟩=⟨(T++47::E).toArray⟩:=(jaj (T++[47]) E).trans (by rw [List.append_assoc];rfl);go_wp2_with first|((go_at_call 73;(with_reducible refine HSQ.o.mono ?_);rintro e6 w6 ⟨k6,rfl,h1,h2,h3,h4,hb6⟩;have _:=bm hb6;have HT6:=qh (jb7 (a:=(X.den:Int)) (L:=20000) (⟨_,k6,c3,_,rfl,h1,h2,h3,Nat.le_trans h4 H3.o.2.2.2.1.1,H3.o.2.2.2.1.2,Nat.le_trans h4 (Nat.le_trans H3.o.2.2.2.2 HY.o.2.2.2.2)⟩) (Nat.le_refl _));clear h1 h2 h3 h4))|((go_at_call 28;(with_reducible refine mz HT6.o fun w7 hb7 _=> ?_);rw [HE.o]))
    go_ret;exact ⟨rfl,bi⟩
end
end Go.Proofs.YtfagcpcikjlboaaGreatDoor
