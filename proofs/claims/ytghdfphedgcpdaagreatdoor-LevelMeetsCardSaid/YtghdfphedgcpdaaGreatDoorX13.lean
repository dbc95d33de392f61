import Derived.Test.YtghdfphedgcpdaaGreatDoorProg
import Derived.Test.YtghdfphedgcpdaaGreatDoorX08
import Derived.Test.YtghdfphedgcpdaaGreatDoorX12
set_option linter.unusedVariables false
set_option linter.unusedSimpArgs false
namespace Go.Sw
section
variable {f s:Bs} {pm:Pars}
theorem srcS_le:∀l:List Ex,(srcS f l).length≤(srcPs f l).length
 | []=>Nat.le_refl _
 | [_]=>by simp [srcS,srcH]
 | x::y::l=>by simp only [srcS,srcH,srcPs,List.length_append];omega
theorem srcH_le:∀l:List Ex,(srcH f l).length≤(srcPs f l).length
 | []=>Nat.le_refl _
 | x::l=>by simp only [srcH,srcPs,List.length_append];omega
mutual
theorem z2u:∀(e:Ex) (l:Int),(jD e l).1=false→((xQ f e).length:Int)≤l - (jD e l).2∧(jD e l).2+1≤l
 | .mk k n s args arms,l=>by
  intro h
  simp only [jD] at h ⊢
  split at h
  ·cases h
  ·rename_i hl
   rw [if_neg hl]
   cases hm:meass args (l - 1) with
   | mk b q =>
    rw [hm] at h
    cases b with
    | true=>cases h
    | false =>
     have k1:=srcPs_len args (l - 1) (by rw [hm])
     have k2:=srcPa_len arms q h
     rw [hm] at k1
     have k3:=srcS_le (f:=f) args
     have k4:=srcH_le (f:=f) args
     simp only at k1 k2 ⊢
     have k5:(xQ f (.mk k n s args arms)).length≤1+(srcPs f args).length+(srcPa f arms).length:=by
      simp only [xQ]
      repeat' split
      all_goals first | omega | (simp only [List.length_append,List.length_cons,List.length_nil];omega)
     omega
theorem srcPs_len:∀(es:List Ex) (l:Int),(meass es l).1=false→((srcPs f es).length:Int)≤l - (meass es l).2∧(meass es l).2≤l
 | [],l=>by intro _;simp [srcPs,meass]
 | e::es,l=>by
  intro h
  simp only [meass] at h ⊢
  cases hm:jD e l with
  | mk b q =>
   rw [hm] at h
   cases b with
   | true=>cases h
   | false =>
    have k1:=z2u e l (by rw [hm])
    have k2:=srcPs_len es q h
    rw [hm] at k1
    simp only [srcPs,List.length_append] at k1 ⊢
    omega
theorem srcPa_len:∀(es:List Arm) (l:Int),(measa es l).1=false→((srcPa f es).length:Int)≤l - (measa es l).2∧(measa es l).2≤l
 | [],l=>by intro _;simp [srcPa,measa]
 | .mk c vs b::es,l=>by
  intro h
  simp only [measa] at h ⊢
  split at h
  ·cases h
  ·rename_i hv
   rw [if_neg hv]
   cases hm:jD b l with
   | mk q0 q =>
    rw [hm] at h
    cases q0 with
    | true=>cases h
    | false =>
     have k1:=z2u b l (by rw [hm])
     have k2:=srcPa_len es q h
     rw [hm] at k1
     simp only [srcPa,List.length_append] at k1 ⊢
     omega
end
theorem q3r (node:Bs) (e:Ex):(toP f node e).length≤(xQ f e).length:=by rw [toP,List.length_map];exact cW _
theorem j2g:∀(l:List Ex) (k:Nat),(z6g f s k l).length≤(srcPs f l).length
 | [],_=>Nat.le_refl _
 | x::l,k=>by have h1:=q3r (f:=f) (wM s k) x;have h2:=j2g l (k+1);simp only [z6g,srcPs,List.length_append];omega
theorem q4l:∀(ps:List Param) (l:List Ex),(cP f s ps l).length≤(srcPs f l).length
 | [],l=>by simp [cP]
 | _::_,[]=>Nat.le_refl _
 | p::ps,x::l=>by have h1:=q3r (f:=f) (vrN s p.name) x;have h2:=q4l ps l;simp only [cP,srcPs,List.length_append];omega
theorem letF_le:∀(l:List Ex),(letF f s l).length≤(srcPs f l).length
 | []=>Nat.le_refl _
 | x::l=>by have h1:=q3r (f:=f) (vrN f s) x;simp only [letF,srcPs,List.length_append];omega
theorem q7p:∀(l:List Bs) (k:Nat),(z8m f s k l).length=l.length
 | [],_=>rfl
 | _::l,k=>by simp only [z8m,List.length_cons,q7p l (k+1)]
theorem j1v:∀(es:List Arm) (l:Int),(measa es l).1=false→((z0s f es).length:Int)≤16 * (l - (measa es l).2)
 | [],l=>by intro _;simp [z0s,measa]
 | .mk c vs b::es,l=>by
  intro h
  simp only [measa] at h ⊢
  split at h
  ·cases h
  ·rename_i hv
   rw [if_neg hv]
   cases hm:jD b l with
   | mk q0 q =>
    rw [hm] at h
    cases q0 with
    | true=>cases h
    | false =>
     have k1:=z2u (f:=f) b l (by rw [hm])
     have k2:=j1v es q h
     rw [hm] at k1
     have e:(z0s f (.mk c vs b::es)).length=vs.length+(z0s f es).length:=by simp only [z0s,List.flatMap_cons,List.length_append,Arm.con,Arm.vars,q7p]
     rw [e];simp only at k1 ⊢;omega
theorem x1e (e:Ex) {l q:Int} (hl:1≤l) (h1:(meass e.args (l - 1)).1=false) (h2:(measa e.arms (meass e.args (l - 1)).2).1=false):((wT pm f e).length:Int)≤16 * l:=by
 have k1:=srcPs_len (f:=f) e.args (l - 1) h1
 have k2:=j1v (f:=f) e.arms _ h2
 have k3:=meass_le e.args (l - 1) h1 (by omega)
 have k4:=measa_le e.arms _ h2 k3.1
 unfold wT
 split
 ·have:=j2g (f:=f) (s:=e.name) e.args 0;omega
 ·split
  ·have:=q4l (f:=f) (s:=e.name) ((zK pm e.name).getD []) e.args;omega
  ·split
   ·have:=letF_le (f:=f) (s:=e.name) e.args;omega
   ·split
    ·omega
    ·simp;omega
mutual
theorem z3o:∀(e:Ex) (l:Int),l≤6000→(jD e l).1=false→((kS pm f e).length:Int)≤96000 * (l - (jD e l).2)
 | .mk k n s args arms,l=>by
  intro h0 h
  simp only [jD] at h ⊢
  split at h
  ·cases h
  ·rename_i hl
   rw [if_neg hl]
   cases hm:meass args (l - 1) with
   | mk b q =>
    rw [hm] at h
    cases b with
    | true=>cases h
    | false =>
     have k0:=meass_le args (l - 1) (by rw [hm]) (by omega)
     have k1:=flowPs_len args (l - 1) (by omega) (by rw [hm])
     have k2:=flowPa_len arms q (by rw [hm] at k0;simp only at k0;omega) h
     have k3:=x1e (pm:=pm) (f:=f) (.mk k n s args arms) (l:=l) (q:=0) (by omega) (by simp only [Ex.args];rw [hm]) (by simp only [Ex.args,Ex.arms];rw [hm];exact h)
     rw [hm] at k1
     simp only [kS,List.length_append] at k1 k2 ⊢
     omega
theorem flowPs_len:∀(es:List Ex) (l:Int),l≤6000→(meass es l).1=false→((flowPs pm f es).length:Int)≤96000 * (l - (meass es l).2)
 | [],l=>by intro _ _;simp [flowPs,meass]
 | e::es,l=>by
  intro h0 h
  simp only [meass] at h ⊢
  cases hm:jD e l with
  | mk b q =>
   rw [hm] at h
   cases b with
   | true=>cases h
   | false =>
    have k1:=z3o e l h0 (by rw [hm])
    have k0:=(nF e l (by rw [hm])).2
    rw [hm] at k1 k0
    have k2:=flowPs_len es q (by simp only at k0;omega) h
    simp only [flowPs,List.length_append] at k1 ⊢
    omega
theorem flowPa_len:∀(es:List Arm) (l:Int),l≤6000→(measa es l).1=false→((flowPa pm f es).length:Int)≤96000 * (l - (measa es l).2)
 | [],l=>by intro _ _;simp [flowPa,measa]
 | .mk c vs b::es,l=>by
  intro h0 h
  simp only [measa] at h ⊢
  split at h
  ·cases h
  ·rename_i hv
   rw [if_neg hv]
   cases hm:jD b l with
   | mk q0 q =>
    rw [hm] at h
    cases q0 with
    | true=>cases h
    | false =>
     have k1:=z3o b l h0 (by rw [hm])
     have k0:=(nF b l (by rw [hm])).2
     rw [hm] at k1 k0
     have k2:=flowPa_len es q (by simp only at k0;omega) h
     simp only [flowPa,List.length_append] at k1 ⊢
     omega
end
end
structure TTidy (T:Table):Prop where
 inp:∀n t,zK T.inputs n=some t→n.size≤1000
 fn:∀n f,zK T.funs n=some f→n.size≤1000∧f.params.length≤1000
 con:∀n m,zK T.cons n=some m→n.size≤1000∧m.con.fields.length≤1000
 arm:∀n d,zK T.datas n=some d→∀x∈d.cons,x.name.size≤1000∧x.fields.length≤1000
theorem tidy_of {T:Table} (hT:TTidy T) {V:List Bs} (hV:∀v∈V,v.size≤1000) {s:Scope} {e:Ex} {t:Bs} (h:Tyd T s e t):InV V s→(∀b∈yC e,b∈V)→pB e:=by
 induction h with
 | num hk ha hb=>intro _ _;rw [pC,ha,hb];simp [hk]
 | var hk ha hb hv=>intro hs _;rw [pC,ha,hb];exact ⟨fun _ _=>hV _ (hs _ _ hv),by simp,by simp,by simp⟩
 | inp hk ha hb hv=>intro hs _;rw [pC,ha,hb];exact ⟨fun _ _=>hT.inp _ _ hv,by simp,by simp,by simp⟩
 | @con s e m hk hz hm hl hty ih =>
  intro hs hb
  obtain ⟨h1,h2⟩:=hT.con _ _ hm
  rw [pC,hz]
  refine ⟨fun _ _=>h1,by omega,fun x hx =>?_,by simp⟩
  obtain ⟨i,hi⟩:=List.getElem?_of_mem hx
  obtain ⟨u,hu⟩:=yF (l:=m.con.fields) (i:=i) (by have:=(List.getElem?_eq_some_iff.1 hi).1;omega)
  exact ih i x u hi hu hs (jY hb hx)
 | @call s e g hk hz hm hl hty ih =>
  intro hs hb
  obtain ⟨h1,h2⟩:=hT.fn _ _ hm
  rw [pC,hz]
  refine ⟨fun _ _=>h1,by omega,fun x hx =>?_,by simp⟩
  obtain ⟨i,hi⟩:=List.getElem?_of_mem hx
  obtain ⟨u,hu⟩:=yF (l:=g.params) (i:=i) (by have:=(List.getElem?_eq_some_iff.1 hi).1;omega)
  exact ih i x u hi hu hs (jY hb hx)
 | let_ hk hz hxy _ _ ih1 ih2 =>
  intro hs hb
  rw [pC,hz,hxy]
  refine ⟨fun _ _=>hV _ (z8p hb hk),by simp,fun x hx =>?_,by simp⟩
  rcases List.mem_cons.1 hx with rfl | hx
  ·exact ih1 hs (jY hb (by rw [hxy];simp))
  ·rw [List.mem_singleton] at hx;subst hx
   exact ih2 (hs.put (z8p hb hk)) (jY hb (by rw [hxy];simp))
 | @case_ s e x dt u d hk hx hty hd hle hc hta ih1 ih2 =>
  intro hs hb
  rw [pC,hx]
  refine ⟨fun _ h=>(by omega),by simp,fun y hy =>?_,fun a ha =>?_⟩
  ·rw [List.mem_singleton] at hy;subst hy;exact ih1 hs (jY hb (by rw [hx];simp))
  ·obtain ⟨i,hi⟩:=List.getElem?_of_mem ha
   obtain ⟨c,hci⟩:=yF (l:=d.cons) (i:=i) (by have:=(List.getElem?_eq_some_iff.1 hi).1;omega)
   have hb':=z8o hb ha
   obtain ⟨h1,h2⟩:=hT.arm _ _ hd c (List.mem_of_getElem? hci)
   obtain ⟨g1,g2⟩:=hc i a c hi hci
   refine ⟨by rw [g1];exact h1,by omega,fun v hv=>hV _ (hb' v (List.mem_append_left _ hv)),?_⟩
   exact ih2 i a c hi hci (hs.putAll fun v hv=>hb' v (List.mem_append_left _ hv)) (fun b hbb=>hb' b (List.mem_append_right _ hbb))
 | op hk hz hxy _ _ ih1 ih2 =>
  intro hs hb
  rw [pC,hz,hxy]
  refine ⟨fun _ h=>(by omega),by simp,fun x hx =>?_,by simp⟩
  rcases List.mem_cons.1 hx with rfl | hx
  ·exact ih1 hs (jY hb (by rw [hxy];simp))
  ·rw [List.mem_singleton] at hx;subst hx;exact ih2 hs (jY hb (by rw [hxy];simp))
section
variable {c:Core}
theorem dQ (hl:xF c=false) {d:Data} (hd:d∈c.datas):d.cons.length≤16∧∀x∈d.cons,x.fields.length≤16:=by
 simp only [xF,Bool.or_eq_false_iff,List.any_eq_false] at hl
 have:=hl.1.2 d hd
 simp only [z5o,Bool.or_eq_true,decide_eq_true_eq,not_or,List.any_eq_true,not_exists,not_and] at this
 exact ⟨by omega,fun x hx=>by have:=this.2 x hx;omega⟩
theorem z3a:∀x∈truthsD.cons,x.name.size≤1000∧x.fields.length≤1000:=by
 intro x hx
 simp only [truthsD,List.mem_cons,List.not_mem_nil,or_false] at hx
 rcases hx with rfl | rfl <;> exact ⟨by decide,by decide⟩
theorem ttidy (h:Right c) (hl:xF c=false):TTidy (yL c) where
 inp n t hn:=by
  rw [h.inputs] at hn
  obtain ⟨p,hp,e,_⟩:=kJ hn
  have:=dX (h.iN p hp);rw [← e];omega
 fn n f hn:=by
  rw [h.funs] at hn
  obtain ⟨x,hx,e1,e2⟩:=kJ hn
  have e3:x=f:=e2
  subst e3;subst e1
  have:=dX (h.fN x hx);have:=(sG hl hx).1;omega
 con n m hn:=by
  rw [h.cons] at hn
  obtain ⟨d,hd,e1,e2,e3⟩:=y8x hn
  rw [← e3]
  rcases List.mem_cons.1 hd with rfl | hd
  ·exact z3a _ e2
  ·have:=z9j (z0t h hd e2);have:=(dQ hl hd).2 _ e2;omega
 arm n d hn x hx:=by
  rw [h.datas] at hn
  obtain ⟨y,hy,_,e2⟩:=kJ hn
  have e3:y=d:=e2
  subst e3
  rcases List.mem_cons.1 hy with rfl | hy
  ·exact z3a _ hx
  ·have:=z9j (z0t h hy hx);have:=(dQ hl hy).2 _ hx;omega
theorem z3q (h:Right c) {f:Fun} (hf:f∈c.funs):∀v∈f.params.map Param.name++yC f.body,v.size≤1000:=fun v hv=>by
 have:=dX ((y0f h hf).names v hv);omega
theorem tidyC (h:Right c) (hl:xF c=false):TidyC c where
 inp p hp:=by have:=dX (h.iN p hp);omega
 con d hd x hx:=by have:=z9j (z0t h hd hx);have:=(dQ hl hd).2 _ hx;omega
 fn f hf:=by
  have h1:=z3q h hf
  have:=dX (h.fN f hf)
  exact ⟨by omega,fun p hp=>h1 _ (List.mem_append_left _ (List.mem_map_of_mem hp)),fun b hb=>h1 b (List.mem_append_right _ hb)⟩
theorem pS {α β:Type} {f:α→List β} {n:Nat}:∀{l:List α},(∀x∈l,(f x).length≤n)→(l.flatMap f).length≤l.length * n
 | [],_=>by simp
 | x::l,h=>by
  rw [List.flatMap_cons,List.length_append,List.length_cons,Nat.add_mul]
  have h1:=h x List.mem_cons_self
  have h2:=pS (l:=l) fun y hy=>h y (List.mem_cons_of_mem _ hy)
  omega
theorem j6g (hl:xF c=false):(zD c).length≤1000000000:=by
 have a1:=sH hl;have a2:=uQ hl;have a3:=q0c hl
 have b2:(c.datas.flatMap y6t).length≤c.datas.length * 256:=pS fun d hd=>by
  obtain ⟨h1,h2⟩:=dQ hl hd
  have:(y6t d).length≤d.cons.length * 16:=pS fun x hx=>by simp only [z9y,List.length_map,List.length_range];exact h2 x hx
  omega
 have b3:(c.funs.flatMap uD).length≤c.funs.length * 102017:=pS fun f hf=>by
  obtain ⟨h1,h2⟩:=sG hl hf
  simp only [uD,List.length_cons,List.length_append,List.length_map];omega
 have e:(zD c).length=c.inputs.length+(c.datas.flatMap y6t).length+(c.funs.flatMap uD).length:=by simp only [zD,List.length_append,List.length_map]
 rw [e]
 have c2:c.datas.length * 256≤60 * 256:=Nat.mul_le_mul_right _ a2
 have c3:c.funs.length * 102017≤300 * 102017:=Nat.mul_le_mul_right _ a3
 omega
theorem y9u (i:Param) (x:Bs):∀(l:List Bs) (k:Nat),(cT i x k l).length≤l.length
 | [],_=>Nat.le_refl _
 | t::l,k=>by
  have:=y9u i x l (k+1)
  simp only [cT,List.length_append,List.length_cons];split <;> simp <;> omega
theorem j4y (hl:xF c=false):(xI c).length≤1000000000000:=by
 have a1:=sH hl;have a2:=uQ hl;have a3:=q0c hl
 have b1:(c.inputs.flatMap (q2k c)).length≤c.inputs.length * 15360:=pS fun i hi=>by
  have:(q2k c i).length≤c.datas.length * 256:=pS fun d hd=>by
   obtain ⟨h1,h2⟩:=dQ hl hd
   unfold z5n
   split
   ·have:(d.cons.flatMap fun x=>cT i x.name 0 x.fields).length≤d.cons.length * 16:=pS fun x hx=>Nat.le_trans (y9u i x.name x.fields 0) (h2 x hx)
    omega
   ·simp
  have:c.datas.length * 256≤60 * 256:=Nat.mul_le_mul_right _ a2
  omega
 have b3:(c.funs.flatMap (cS (wY c))).length≤c.funs.length * 600000000:=pS fun f hf=>by
  obtain ⟨m,m1,m2⟩:=q9r hl hf
  have k1:=z2u (f:=f.name) f.body m m2
  have k2:=z3o (pm:=wY c) (f:=f.name) f.body m m1 m2
  have k3:=(nF f.body m m2).1
  have k4:=q3r (f:=f.name) f.name f.body
  simp only [cS,List.length_append]
  omega
 have e:(xI c).length=(c.inputs.flatMap (q2k c)).length+(c.funs.flatMap (cS (wY c))).length:=by simp only [xI,List.length_append]
 rw [e]
 have c1:c.inputs.length * 15360≤6 * 15360:=Nat.mul_le_mul_right _ a1
 have c3:c.funs.length * 600000000≤300 * 600000000:=Nat.mul_le_mul_right _ a3
 omega
theorem q6r {n:Bs} {ps:List Param}:∀{l:List Fun} {m:Pars},zK (l.foldl (fun m f=>qX m f.name f.params) m) n=some ps→zK m n=some ps∨∃f∈l,f.params=ps
 | [],_,h=>.inl h
 | f::l,m,h=>by
  rcases q6r (l:=l) (m:=qX m f.name f.params) h with h1 | ⟨g,hg,e⟩
  ·rw [jX] at h1
   split at h1
   ·cases h1;exact .inr ⟨f,List.mem_cons_self,rfl⟩
   ·exact .inl h1
  ·exact .inr ⟨g,List.mem_cons_of_mem _ hg,e⟩
theorem yJ (h:zP c=0):LOk c:=by
 have hR:=gS h
 obtain ⟨hl,_⟩:=q9s h
 refine ⟨tidyC hR hl,j6g hl,by have:=sH hl;omega,fun f hf=>⟨tidy_of (ttidy hR hl) (z3q hR hf) (y0f hR hf).ty z3t (fun b hb=>List.mem_append_right _ hb),q4i hR hf⟩,fun n ps hn p hp =>?_,j4y hl,x1c hR hl⟩
 rcases q6r hn with h1 | ⟨f,hf,rfl⟩
 ·cases h1
 ·exact z3q hR hf _ (List.mem_append_left _ (List.mem_map_of_mem hp))
end
end Go.Sw

namespace Go.Sw
open Go.Proofs.Tryz
open Go.Proofs
set_option maxRecDepth 20000
set_option maxHeartbeats 4000000
theorem q0m {c:Core} {x:List Bs} (h:sK c=.ok x):zP c=0∧x=zD c:=by
 unfold sK at h;split at h
 cases h;exact ⟨by assumption,rfl⟩
 cases h
theorem z5s {c:Core} {e:Int} (h:sK c=.error e):¬zP c=0∧zP c=e:=by
 unfold sK at h;split at h
 cases h
 cases h;exact ⟨by assumption,rfl⟩
theorem q1b {c:Core} {x:List Bs} (h:hY c=.ok x):zP c=0∧x=cG c:=by
 unfold hY at h;split at h
 cases h;exact ⟨by assumption,rfl⟩
 cases h
theorem z5y {c:Core} {e:Int} (h:hY c=.error e):¬zP c=0∧zP c=e:=by
 unfold hY at h;split at h
 cases h
 cases h;exact ⟨by assumption,rfl⟩
theorem q9h (c:Core) (n:Bs):(zK (yB (yY (zY c)) (zO c)) n).isSome=decide (0 < (vW c n).length):=by
 have h:(zK (yB (yY (zY c)) (zO c)) n).isSome=true↔0 < (vW c n).length:=by
  rw [wQ,reached_union,vW,oE,List.length_map,List.length_pos_iff_exists_mem]
  constructor
  rintro ⟨r,hr,h⟩
  obtain ⟨p,hp,rfl⟩:=List.mem_map.1 hr
  exact ⟨p,List.mem_filter.2 ⟨hp,(wQ _ _ _).2 h⟩⟩
  rintro ⟨p,hp⟩
  obtain ⟨h1,h2⟩:=List.mem_filter.1 hp
  exact ⟨inN p.name,List.mem_map_of_mem (f:=fun p:Param=>inN p.name) h1,(wQ _ _ _).1 h2⟩
 cases hb:(zK (yB (yY (zY c)) (zO c)) n).isSome
 rw [decide_eq_false (fun hc=>by rw [h.2 hc] at hb;cases hb)]
 rw [decide_eq_true (h.1 hb)]
section
variable {Φ:Fz} {K:List Res} {w:World} {d0:List Value} {c:Core} {n:Bs}
theorem tU (h0:zP c=0) (hn:n∈zD c) (rpc:RCore Φ d0 c) (G:Glob Φ) (hm:Mem Φ K w) :
  Calls prog 13 (List.toArray [.agg d0.toArray,.string n]) w (fun ee w'=>ee=.returned (.tuple (List.toArray [.bool (zK (yB (yY (zY c)) (zO c)) n).isSome,.int .i64 0]))∧Mem Φ K w'):=by
 have h:=z9h (n:=n) rpc G yJ hm
 rw [kL h0 hn] at h
 exact h.mono fun ee w' ⟨_,h1,_,h2⟩=>⟨h1,h2⟩
theorem z6f (h0:zP c=0) (hn:n∈zD c) (rpc:RCore Φ d0 c) (G:Glob Φ) (hm:Mem Φ K w) :
  Calls prog 13 (List.toArray [.agg d0.toArray,.string n]) w (fun ee w'=>ee=.returned (.tuple (List.toArray [.bool (decide (0 < (vW c n).length)),.int .i64 0]))∧Mem Φ K w'):=by
 rw [← q9h];exact tU h0 hn rpc G hm
theorem q8s (h0:zP c=0) (hn:n∈zD c) (rpc:RCore Φ d0 c) (G:Glob Φ) (hm:Mem Φ K w) :
  Calls prog 14 (List.toArray [.agg d0.toArray,.string n]) w (fun ee w'=>∃y:Value,ee=.returned (.tuple (List.toArray [y,.int .i64 0]))∧True∧Mem Φ (.gs y 9 1 (strs (vW c n))::K) w'):=by
 have h:=z5i (n:=n) rpc G yJ hm
 rw [kL h0 hn] at h;exact h
end
def DpI (c:Core) (n:Bs) (k a:Nat):Prop:=oE c n (c.inputs.drop a)=(vW c n).drop k
section
variable {c:Core} {n x:Bs} {k a:Nat} {p:Param}
theorem DpI.start:DpI c n 0 0:=rfl
theorem j5j (h:Right c) {p q:Param} (hp:p∈c.inputs) (hq:q∈c.inputs) (e:p.name=q.name):p=q:=by
 have:=h.iU
 obtain ⟨i,hi⟩:=List.getElem?_of_mem hp
 obtain ⟨j,hj⟩:=List.getElem?_of_mem hq
 have hi':(c.inputs.map Param.name)[i]? = some p.name:=by rw [List.getElem?_map,hi];rfl
 have hj':(c.inputs.map Param.name)[j]? = some p.name:=by rw [List.getElem?_map,hj,e];rfl
 have hij:i=j:=(List.getElem?_inj (List.getElem?_eq_some_iff.1 hi').1 this).1 (hi'.trans hj'.symm)
 subst hij;rw [hi] at hj;exact Option.some.inj hj
theorem DpI.skip (h:DpI c n k a) (hx:(vW c n)[k]? = some x) (hp:c.inputs[a]? = some p) (hne:¬p.name=x):DpI c n k (a+1):=by
 unfold DpI at *
 rw [zA hx] at h
 cases hd:depP c n p with
 | true=>rw [z0v hp hd] at h;exact absurd (List.cons.inj h).1 hne
 | false=>rw [j2h hp hd] at h;rw [h,zA hx]
theorem DpI.take (hR:Right c) (h:DpI c n k a) (hx:(vW c n)[k]? = some x) (hp:c.inputs[a]? = some p) (he:p.name=x):DpI c n (k+1) (a+1):=by
 unfold DpI at *
 rw [zA hx] at h
 cases hd:depP c n p with
 | true=>rw [z0v hp hd] at h;exact (List.cons.inj h).2
 | false =>
  have hm:x∈vW c n:=List.mem_of_getElem? hx
  obtain ⟨q,hq,hqe⟩:=List.mem_map.1 hm
  obtain ⟨h1,h2⟩:=List.mem_filter.1 hq
  have:=j5j hR (List.mem_of_getElem? hp) h1 (by rw [he,hqe])
  subst this;rw [hd] at h2;cases h2
theorem DpI.end_ (h:DpI c n k a) (hx:(vW c n)[k]? = some x) (ha:¬a < c.inputs.length):False:=by
 unfold DpI at h
 rw [zH ha,zA hx] at h;cases h
end
theorem y1u {Φ:Fz} {K:List Res} {w:World} {d0:List Value} {c:Core} (rpc:RCore Φ d0 c) (G:Glob Φ) (hm:Mem Φ K w) :
  Calls prog 3 (List.toArray [.agg d0.toArray]) w (fun ee w'=>ee=.returned (.bool true)∧Mem Φ K w'):=by
 have rpc0_:=rpc
 obtain ⟨p3,c4,p9,c10,p15,c16,p21,c22,rfl,h2,h8,h14,h20,hm5,hn6,hm11,hn12,hm17,hn18,hm23,hn24⟩:=RCore.fm rpc
 refine zN func3 ntmps3 fun Q hQ a he =>?_
 refine Bx fun b26 w hm a he =>?_
 refine zT call11 (fun w hm a he =>?_) (c:=z2s G (fun _=>yJ) hm)
 refine go fun a he =>?_
 refine st he rfl rfl rfl (qA he rfl call12 (z4n rpc0_ G yJ hm) (fun q29 y30 w hq31 hG32 hm a he =>?_) (fun q29 w hq31 hm a he =>?_))
 obtain ⟨h0,rfl⟩:=q0m hq31
 replace hm:=hm.nf
 refine go fun a he =>?_
 have hm0_:=hm
 clear hm
 obtain ⟨Ψ35,le36,hm,hrow37⟩:=hm0_.freezeRow (i:=0) rfl
 clear hm0_
 replace h8:=h8.up le36
 replace rpc0_:=RCore.mono _ _ _ _ le36 rpc0_
 replace G:=G.mono le36
 replace hm:=hm.nf
 have hsl38:SliceOf RStr Ψ35 1 _ ((zD c)):=SliceOf.strs.2 hrow37
 obtain ⟨p39,c40,hv_,hm41,hn42⟩:=hsl38.form (by decide)
 have hmk_:=hm
 clear hm
 subst hv_
 have hm:=hmk_
 clear hmk_
 refine Qq (fun a he =>?_) (o:=by exact fun he hs=>qF false he rfl rfl rfl)
 refine go fun a he =>?_
 refine yG (he.ks [1,3,4]) hm (fun R mm a w=>∃(i:Nat),mm=(zD c).length - i∧R Ψ35 [(6,.int .i64 ((i:Nat):Int))] [] a w∧(True)) ((zD c).length - 0) ⟨0,rfl,⟨he.pk,hm⟩,trivial⟩ ?_
 clear hm he
 rintro mm a w ⟨i,hmu,⟨he,hm⟩,hI46⟩ L45 hL45
 by_cases h49:i < ((zD c)).length
 by_cases h50:i < 60
 refine Reg [2,1,1,1,2,0,1,1,1,1,1] [0] fun w hm a he =>?_
 refine go fun a he =>?_
 obtain ⟨q53,rfl,x54,hx55,cs56,hl57,ha58,hr59⟩:=hsl38.el hn42 h49
 obtain rfl:cs56=[.string x54]:=hr59
 refine zT call13 (fun w hm a he =>?_) (c:=z6f h0 (List.mem_of_getElem? hx55) rpc0_ G hm)
 refine Reg [2,1,1,1,2,0,1,1,1,1,1] [0] fun w hm a he =>?_
 refine qV call14 (fun y61 w hG62 hm a he =>?_) (c:=q8s h0 (List.mem_of_getElem? hx55) rpc0_ G hm)
 refine go fun a he =>?_
 have hm0_:=hm
 clear hm
 obtain ⟨Ψ65,le66,hm,hrow67⟩:=hm0_.freezeRow (i:=0) rfl
 clear hm0_
 replace h8:=h8.up le66
 replace rpc0_:=RCore.mono _ _ _ _ le66 rpc0_
 replace G:=G.mono le66
 replace ha58:=ha58.mono le66
 replace hm:=hm.nf
 have hsl68:SliceOf RStr Ψ65 1 _ ((vW c x54)):=SliceOf.strs.2 hrow67
 obtain ⟨p69,c70,hv_,hm71,hn72⟩:=hsl68.form (by decide)
 have hmk_:=hm
 clear hm
 subst hv_
 have hm:=hmk_
 clear hmk_
 refine Qq (fun a he =>?_) (o:=by exact fun he hs=>qF false he rfl rfl rfl)
 refine Qq (fun a he =>?_) (o:=by exact fun he hs=>qF false he rfl rfl rfl)
 refine Qq (fun a he =>?_) (o:=by exact fun he hs=>j1n (i:=(((vW c x54)).length)) (j:=0) he rfl rfl)
 generalize hb74:(decide (0 < ((vW c x54)).length))=bb73 at he
 cases bb73
 refine Qq (fun a he =>?_) (o:=by exact fun he hs=>pX (v:=.bool false) he rfl rfl rfl (by kernel_rfl))
 refine go fun a he =>?_
 refine yG (he.ks [1,3,4,6,9]) hm (fun R mm a w=>∃(k:Nat) (ai:Nat),mm=(vW c x54).length - k∧R Ψ65 [(11,.int .i64 ((ai:Nat):Int)),(12,.int .i64 ((k:Nat):Int))] [] a w∧(DpI c x54 k ai)) ((vW c x54).length - 0) ⟨0,0,rfl,⟨he.pk,hm⟩,DpI.start⟩ ?_
 clear hm he
 rintro mm a w ⟨k,ai,hmu,⟨he,hm⟩,hI78⟩ L77 hL77
 by_cases h81:k < ((vW c x54)).length
 refine go fun a he =>?_
 obtain ⟨xk_,hxk_⟩:=yF (l:=(vW c x54)) (i:=k) h81
 refine yG (he.ks [1,3,4,6,9,12]) hm (fun R mm a w=>∃(a2:Nat),mm=c.inputs.length - a2∧R Ψ65 [(11,.int .i64 ((a2:Nat):Int))] [] a w∧(DpI c x54 k a2)) (c.inputs.length - ai) ⟨ai,rfl,⟨he.pk,hm⟩,hI78⟩ ?_
 clear hm he
 rintro mm a w ⟨a2,hmu,⟨he,hm⟩,hI85⟩ L84 hL84
 have hdp_:=hI85
 refine Reg [1,1,2,1,1,1,1,2,1,1,1,2,1,1,1,2,1,1] [0] fun w hm a he =>?_
 by_cases h88:a2 < c.inputs.length
 refine go fun a he =>?_
 obtain ⟨q89,rfl,x90,hx91,cs92,hl93,ha94,hr95⟩:=h8.el hn12 h88
 obtain rfl:=id hr95
 refine go fun a he =>?_
 obtain ⟨q96,rfl,x97,hx98,cs99,hl100,ha101,hr102⟩:=hsl68.el hn72 h81
 obtain rfl:cs99=[.string x97]:=hr102
 by_cases h103:x90.name=x97
 by_cases h106:a2=c.inputs.length
 refine zF ?_
 replace hm:=hm.le ((le36).trans le66)
 replace hm:=hm.dl [0]
 exact absurd h106 (by omega)
 refine go fun a he =>?_
 refine hL77 _ _ _ (by subst hmu;omega) ⟨(k+1),(a2+1),rfl,⟨he.pk,hm⟩,?_⟩
 exact DpI.take (gS h0) hI85 hx98 hx91 h103
 refine go fun a he =>?_
 refine hL84 _ _ _ (by subst hmu;omega) ⟨(a2+1),rfl,⟨he.pk,hm⟩,?_⟩
 exact DpI.skip hI85 hx98 hx91 h103
 by_cases h110:a2=c.inputs.length
 refine zF ?_
 replace hm:=hm.le ((le36).trans le66)
 replace hm:=hm.dl [0]
 exact (DpI.end_ hI85 hxk_ h88).elim
 refine Qq (fun a he =>?_) (o:=by exact fun he hs=>kV (i:=a2) (j:=1) he rfl rfl (by first | omega | exact (DpI.end_ hdp_ hxk_ (by assumption)).elim))
 refine go fun a he =>?_
 refine hL77 _ _ _ (by subst hmu;omega) ⟨(k+1),(a2+1),rfl,⟨he.pk,hm⟩,?_⟩
 exact (DpI.end_ hI85 hxk_ h88).elim
 refine go fun a he =>?_
 replace hm:=hm.le (le66)
 refine hL45 _ _ _ (by subst hmu;omega) ⟨(i+1),rfl,⟨he.pk,hm⟩,?_⟩
 trivial
 refine Qq (fun a he =>?_) (o:=by exact fun he hs=>pX (v:=.bool false) he rfl rfl rfl (by kernel_rfl))
 refine go fun a he =>?_
 refine yG (he.ks [1,3,4,6,9]) hm (fun R mm a w=>∃(k:Nat) (ai:Nat),mm=(vW c x54).length - k∧R Ψ65 [(11,.int .i64 ((ai:Nat):Int)),(12,.int .i64 ((k:Nat):Int))] [] a w∧(DpI c x54 k ai)) ((vW c x54).length - 0) ⟨0,0,rfl,⟨he.pk,hm⟩,DpI.start⟩ ?_
 clear hm he
 rintro mm a w ⟨k,ai,hmu,⟨he,hm⟩,hI115⟩ L114 hL114
 by_cases h118:k < ((vW c x54)).length
 refine go fun a he =>?_
 obtain ⟨xk_,hxk_⟩:=yF (l:=(vW c x54)) (i:=k) h118
 refine yG (he.ks [1,3,4,6,9,12]) hm (fun R mm a w=>∃(a2:Nat),mm=c.inputs.length - a2∧R Ψ65 [(11,.int .i64 ((a2:Nat):Int))] [] a w∧(DpI c x54 k a2)) (c.inputs.length - ai) ⟨ai,rfl,⟨he.pk,hm⟩,hI115⟩ ?_
 clear hm he
 rintro mm a w ⟨a2,hmu,⟨he,hm⟩,hI122⟩ L121 hL121
 have hdp_:=hI122
 refine Reg [1,1,2,1,1,1,1,2,1,1,1,2,1,1,1,2,1,1] [0] fun w hm a he =>?_
 by_cases h125:a2 < c.inputs.length
 refine go fun a he =>?_
 obtain ⟨q126,rfl,x127,hx128,cs129,hl130,ha131,hr132⟩:=h8.el hn12 h125
 obtain rfl:=id hr132
 refine go fun a he =>?_
 obtain ⟨q133,rfl,x134,hx135,cs136,hl137,ha138,hr139⟩:=hsl68.el hn72 h118
 obtain rfl:cs136=[.string x134]:=hr139
 by_cases h140:x127.name=x134
 by_cases h143:a2=c.inputs.length
 refine zF ?_
 replace hm:=hm.le ((le36).trans le66)
 replace hm:=hm.dl [0]
 exact absurd h143 (by omega)
 refine go fun a he =>?_
 refine hL114 _ _ _ (by subst hmu;omega) ⟨(k+1),(a2+1),rfl,⟨he.pk,hm⟩,?_⟩
 exact DpI.take (gS h0) hI122 hx135 hx128 h140
 refine go fun a he =>?_
 refine hL121 _ _ _ (by subst hmu;omega) ⟨(a2+1),rfl,⟨he.pk,hm⟩,?_⟩
 exact DpI.skip hI122 hx135 hx128 h140
 by_cases h147:a2=c.inputs.length
 refine zF ?_
 replace hm:=hm.le ((le36).trans le66)
 replace hm:=hm.dl [0]
 exact (DpI.end_ hI122 hxk_ h125).elim
 refine Qq (fun a he =>?_) (o:=by exact fun he hs=>kV (i:=a2) (j:=1) he rfl rfl (by first | omega | exact (DpI.end_ hdp_ hxk_ (by assumption)).elim))
 refine go fun a he =>?_
 refine hL114 _ _ _ (by subst hmu;omega) ⟨(k+1),(a2+1),rfl,⟨he.pk,hm⟩,?_⟩
 exact (DpI.end_ hI122 hxk_ h125).elim
 refine go fun a he =>?_
 replace hm:=hm.le (le66)
 refine hL45 _ _ _ (by subst hmu;omega) ⟨(i+1),rfl,⟨he.pk,hm⟩,?_⟩
 trivial
 refine zF ?_
 replace hm:=hm.le (le36)
 replace hm:=hm.dl [0]
 exact ⟨rfl,hm⟩
 refine zF ?_
 replace hm:=hm.le (le36)
 replace hm:=hm.dl [0]
 exact ⟨rfl,hm⟩
 obtain ⟨hz_,rfl⟩:=z5s hq31
 refine zF ?_
 replace hm:=hm.dl [0]
 exact ⟨rfl,hm⟩
end Go.Sw
