import Derived.Test.YtghdfphedgcpdaaGreatDoorProg
import Derived.Test.YtghdfphedgcpdaaGreatDoorZ02
import Derived.Test.YtghdfphedgcpdaaGreatDoorZ11
set_option linter.unusedVariables false
set_option linter.unusedSimpArgs false
namespace Go.Sw
section
variable {f:Bs} {e:Ex} {pm:Pars}
theorem x0w (h:e.kind=1):xG f e=[]:=by cases e;simp only [Ex.kind] at h;subst h;simp [xG]
theorem z3d (h:e.kind=2):xG f e=[vrN f e.name]:=by cases e;simp only [Ex.kind] at h;subst h;simp [xG,Ex.name]
theorem z3b (h:e.kind=3):xG f e=[inN e.name]:=by cases e;simp only [Ex.kind] at h;subst h;simp [xG,Ex.name]
theorem x0v (h:e.kind=4):xG f e=[]:=by cases e;simp only [Ex.kind] at h;subst h;simp [xG]
theorem uS (h:e.kind=5):xG f e=[e.name]:=by cases e;simp only [Ex.kind] at h;subst h;simp [xG,Ex.name]
theorem tU (h:e.kind=6):xG f e=srcS f e.args:=by cases e;simp only [Ex.kind] at h;subst h;simp [xG,Ex.args]
theorem oC (h:e.kind=7):xG f e=srcH f e.args++srcPa f e.arms:=by cases e;simp only [Ex.kind] at h;subst h;simp [xG,Ex.args,Ex.arms]
theorem y8y (h:e.kind=8):xG f e=srcPs f e.args:=by cases e;simp only [Ex.kind] at h;subst h;simp [xG,Ex.args]
theorem y2i (a:Arm) (l:List Arm):srcPa f (a::l)=xG f a.body++srcPa f l:=by cases a;simp [srcPa,Arm.body]
theorem wC (e:Ex):vL pm f e=kN pm f e++flowPs pm f e.args++flowPa pm f e.arms:=by cases e;simp [vL,Ex.args,Ex.arms]
theorem z5t (a:Arm) (l:List Arm):flowPa pm f (a::l)=vL pm f a.body++flowPa pm f l:=by cases a;simp [flowPa,Arm.body]
theorem pE (e:Ex):mE pm e↔(e.kind=5→e.args.length≤((zH pm e.name).getD []).length)∧(e.kind=6→e.args≠[])∧flowOks pm e.args∧flowOka pm e.arms:=by cases e;simp [mE,Ex.args,Ex.arms,Ex.kind,Ex.name]
theorem y7l (a:Arm) (l:List Arm):flowOka pm (a::l)↔mE pm a.body∧flowOka pm l:=by cases a;simp [flowOka,Arm.body]
theorem mem_srcPa {x:Bs}:∀{l:List Arm},x∈srcPa f l↔∃a∈l,x∈xG f a.body
 | []=>by simp [srcPa]
 | a::l=>by rw [y2i,List.mem_append,mem_srcPa];simp
theorem mem_flowPs {x:Flow}:∀{l:List Ex},x∈flowPs pm f l↔∃e∈l,x∈vL pm f e
 | []=>by simp [flowPs]
 | a::l=>by simp only [flowPs,List.mem_append,mem_flowPs (l:=l)];simp
theorem mem_flowPa {x:Flow}:∀{l:List Arm},x∈flowPa pm f l↔∃a∈l,x∈vL pm f a.body
 | []=>by simp [flowPa]
 | a::l=>by rw [z5t,List.mem_append,mem_flowPa];simp
theorem dM:∀{l:List Ex},flowOks pm l↔∀e∈l,mE pm e
 | []=>by simp [flowOks]
 | a::l=>by simp only [flowOks,dM (l:=l)];simp
theorem tC:∀{l:List Arm},flowOka pm l↔∀a∈l,mE pm a.body
 | []=>by simp [flowOka]
 | a::l=>by rw [y7l,tC];simp
theorem mem_toP {node a b:Bs}:(a,b)∈toP f node e↔a∈xG f e∧b=node:=by
 unfold toP sQ
 rw [List.mem_map]
 constructor
 ·rintro ⟨x,hx,h⟩;cases h;exact ⟨(z2q _ _).1 hx,rfl⟩
 ·rintro ⟨h,rfl⟩;exact ⟨a,(z2q _ _).2 h,rfl⟩
theorem mem_conF {s:Bs} {x:Flow}:∀{l:List Ex} {k:Nat},x∈z6n f s k l↔∃i e,l[i]? = some e∧x∈toP f (wQ s (k+i)) e
 | [],k=>by simp [z6n]
 | a::l,k=>by
  simp only [z6n,List.mem_append,mem_conF (l:=l)]
  constructor
  ·rintro (h | ⟨i,e,h1,h2⟩)
   ·exact ⟨0,a,rfl,h⟩
   ·exact ⟨i+1,e,h1,by rw [show k+(i+1)=k+1+i by omega];exact h2⟩
  ·rintro ⟨i,e,h1,h2⟩
   cases i with
   | zero=>simp only [List.getElem?_cons_zero,Option.some.injEq] at h1;subst h1;exact .inl h2
   | succ i=>exact .inr ⟨i,e,h1,by rw [show k+1+i=k+(i+1) by omega];exact h2⟩
theorem mem_callF {s:Bs} {x:Flow}:∀{ps:List Param} {l:List Ex},x∈dK f s ps l↔∃(i:Nat) (p:Param) (e:Ex),ps[i]? = some p∧l[i]? = some e∧x∈toP f (vrN s p.name) e
 | [],l=>by simp [dK]
 | p::ps,[]=>by simp [dK]
 | p::ps,a::l=>by
  simp only [dK,List.mem_append,mem_callF (ps:=ps) (l:=l)]
  constructor
  ·rintro (h | ⟨i,q,e,h1,h2,h3⟩)
   ·exact ⟨0,p,a,rfl,rfl,h⟩
   ·exact ⟨i+1,q,e,h1,h2,h3⟩
  ·rintro ⟨i,q,e,h1,h2,h3⟩
   cases i with
   | zero=>simp only [List.getElem?_cons_zero,Option.some.injEq] at h1 h2;subst h1;subst h2;exact .inl h3
   | succ i=>exact .inr ⟨i,q,e,h1,h2,h3⟩
theorem q1q {s:Bs} {x:Flow}:∀{l:List Bs} {k:Nat},x∈z7r f s k l↔∃(i:Nat) (v:Bs),l[i]? = some v∧x=(wQ s (k+i),vrN f v)
 | [],k=>by simp [z7r]
 | a::l,k=>by
  simp only [z7r,List.mem_cons,q1q (l:=l)]
  constructor
  ·rintro (h | ⟨i,v,h1,h2⟩)
   ·exact ⟨0,a,rfl,h⟩
   ·exact ⟨i+1,v,h1,by rw [h2,show k+(i+1)=k+1+i by omega]⟩
  ·rintro ⟨i,v,h1,h2⟩
   cases i with
   | zero=>simp only [List.getElem?_cons_zero,Option.some.injEq] at h1;subst h1;exact .inl h2
   | succ i=>exact .inr ⟨i,v,h1,by rw [h2,show k+1+i=k+(i+1) by omega]⟩
theorem mem_armF {l:List Arm} {x:Flow}:x∈z1n f l↔∃a∈l,∃(i:Nat) (v:Bs),a.vars[i]? = some v∧x=(wQ a.con i,vrN f v):=by
 simp only [z1n,List.mem_flatMap,q1q,Nat.zero_add]
end
structure Ends (T:Table) (pm:Pars) (f:Bs) (V:List Bs) (N:Bs→Prop):Prop where
 var:∀v∈V,N (vrN f v)
 inp:∀i t,zH T.inputs i=some t→N (inN i)
 fn:∀g h,zH T.funs g=some h→N g∧(∀p∈h.params,N (vrN g p.name))∧zH pm g=some h.params
 con:∀k m,zH T.cons k=some m→∀j,j < m.con.fields.length→N (wQ k j)
 arm:∀t d,zH T.datas t=some d→∀c∈d.cons,∀j,j < c.fields.length→N (wQ c.name j)
def InV (V:List Bs) (s:Scope):Prop:=∀n x,zH s n=some x→n∈V
theorem InV.put {V:List Bs} {s:Scope} (h:InV V s) {k x:Bs} (hk:k∈V):InV V (qM s k x):=fun n y hy=>by
 rw [jE] at hy
 split at hy
 ·rename_i e;exact e▸hk
 ·exact h n y hy
theorem InV.putAll {V:List Bs}:∀{vs fs:List Bs} {s:Scope},InV V s→(∀v∈vs,v∈V)→InV V (putAll s vs fs)
 | [],fs,_,h,_=>by rw [xV];exact h
 | _::_,[],_,h,_=>h
 | v::vs,f::fs,_,h,hv=>by rw [dV];exact InV.putAll (h.put (hv v List.mem_cons_self)) fun x hx=>hv x (List.mem_cons_of_mem _ hx)
section
variable {T:Table} {pm:Pars} {f:Bs} {V:List Bs} {N:Bs→Prop}
theorem xF {e x:Ex} (hb:∀b∈zS e,b∈V) (hx:x∈e.args):∀b∈zS x,b∈V:=fun b h=>hb b (by
 rw [mT];exact List.mem_append_left _ (List.mem_append_right _ (z4k hx h)))
theorem z7t {e:Ex} {a:Arm} (hb:∀b∈zS e,b∈V) (ha:a∈e.arms):∀b∈a.vars++zS a.body,b∈V:=fun b h=>hb b (by
 rw [mT];exact List.mem_append_right _ (z4j ha h))
theorem z7u {e:Ex} (hb:∀b∈zS e,b∈V) (h:e.kind=6):e.name∈V:=hb _ (by rw [mT,if_pos h];simp)
theorem x0y (hE:Ends T pm f V N) {s:Scope} {e:Ex} {t:Bs} (h:Tyd T s e t):InV V s→(∀b∈zS e,b∈V)→∀x∈xG f e,N x:=by
 induction h with
 | num hk=>intro _ _ x hx;rw [x0w hk] at hx;cases hx
 | var hk _ _ hv=>intro hs _ x hx;rw [z3d hk,List.mem_singleton] at hx;subst hx;exact hE.var _ (hs _ _ hv)
 | inp hk _ _ hv=>intro _ _ x hx;rw [z3b hk,List.mem_singleton] at hx;subst hx;exact hE.inp _ _ hv
 | con hk=>intro _ _ x hx;rw [x0v hk] at hx;cases hx
 | call hk _ hf=>intro _ _ x hx;rw [uS hk,List.mem_singleton] at hx;subst hx;exact (hE.fn _ _ hf).1
 | let_ hk _ hxy _ _ _ ih =>
  intro hs hb x hx
  rw [tU hk,hxy] at hx
  exact ih (hs.put (z7u hb hk)) (xF hb (by rw [hxy];simp)) x hx
 | @case_ s e y dt u d hk hx _ hd hle hc _ ih1 ih2 =>
  intro hs hb x hm
  rw [oC hk,hx,List.mem_append,mem_srcPa] at hm
  rcases hm with hm | ⟨a,ha,hm⟩
  ·exact ih1 hs (xF hb (by rw [hx];simp)) x hm
  ·obtain ⟨i,hi⟩:=List.getElem?_of_mem ha
   obtain ⟨c,hci⟩:=zX (l:=d.cons) (i:=i) (by have:=(List.getElem?_eq_some_iff.1 hi).1;omega)
   have hb':=z7t hb ha
   exact ih2 i a c hi hci (hs.putAll fun v hv=>hb' v (List.mem_append_left _ hv)) (fun b hbb=>hb' b (List.mem_append_right _ hbb)) x hm
 | op hk _ hxy _ _ ih1 ih2 =>
  intro hs hb x hx
  rw [y8y hk,hxy] at hx
  simp only [srcPs,List.append_nil,List.mem_append] at hx
  rcases hx with hx | hx
  ·exact ih1 hs (xF hb (by rw [hxy];simp)) x hx
  ·exact ih2 hs (xF hb (by rw [hxy];simp)) x hx
theorem z8a (hE:Ends T pm f V N) {s:Scope} {e:Ex} {t node:Bs} (h:Tyd T s e t) (hs:InV V s) (hb:∀b∈zS e,b∈V) (hn:N node):∀a b,(a,b)∈toP f node e→N a∧N b:=fun a b hab=>by
 obtain ⟨h1,rfl⟩:=mem_toP.1 hab
 exact ⟨x0y hE h hs hb a h1,hn⟩
theorem j1f (hE:Ends T pm f V N) {s:Scope} {e:Ex} {t:Bs} (h:Tyd T s e t):InV V s→(∀b∈zS e,b∈V)→∀a b,(a,b)∈vL pm f e→N a∧N b:=by
 induction h with
 | num hk ha hb=>intro _ _ a b hab;rw [wC,ha,hb] at hab;simp [kN,hk,flowPs,flowPa] at hab
 | var hk ha hb=>intro _ _ a b hab;rw [wC,ha,hb] at hab;simp [kN,hk,flowPs,flowPa] at hab
 | inp hk ha hb=>intro _ _ a b hab;rw [wC,ha,hb] at hab;simp [kN,hk,flowPs,flowPa] at hab
 | @con s e m hk hz hm hl hty ih =>
  intro hs hb a b hab
  rw [wC,hz,List.mem_append,List.mem_append] at hab
  rcases hab with (hab | hab) | hab
  ·simp only [kN,hk,if_true] at hab
   obtain ⟨i,x,hx,h2⟩:=mem_conF.1 hab
   obtain ⟨u,hu⟩:=zX (l:=m.con.fields) (i:=i) (by have:=(List.getElem?_eq_some_iff.1 hx).1;omega)
   rw [Nat.zero_add] at h2
   exact z8a hE (hty i x u hx hu) hs (xF hb (List.mem_of_getElem? hx)) (hE.con _ _ hm i (List.getElem?_eq_some_iff.1 hu).1) a b h2
  ·obtain ⟨x,hx,h2⟩:=mem_flowPs.1 hab
   obtain ⟨i,hi⟩:=List.getElem?_of_mem hx
   obtain ⟨u,hu⟩:=zX (l:=m.con.fields) (i:=i) (by have:=(List.getElem?_eq_some_iff.1 hi).1;omega)
   exact ih i x u hi hu hs (xF hb hx) a b h2
  ·simp [flowPa] at hab
 | @call s e g hk hz hm hl hty ih =>
  intro hs hb a b hab
  obtain ⟨f1,f2,f3⟩:=hE.fn _ _ hm
  rw [wC,hz,List.mem_append,List.mem_append] at hab
  rcases hab with (hab | hab) | hab
  ·simp only [kN,hk,f3] at hab
   obtain ⟨i,p,x,hp,hx,h2⟩:=mem_callF.1 hab
   exact z8a hE (hty i x p hx hp) hs (xF hb (List.mem_of_getElem? hx)) (f2 p (List.mem_of_getElem? hp)) a b h2
  ·obtain ⟨x,hx,h2⟩:=mem_flowPs.1 hab
   obtain ⟨i,hi⟩:=List.getElem?_of_mem hx
   obtain ⟨u,hu⟩:=zX (l:=g.params) (i:=i) (by have:=(List.getElem?_eq_some_iff.1 hi).1;omega)
   exact ih i x u hi hu hs (xF hb hx) a b h2
  ·simp [flowPa] at hab
 | @let_ s e x y t u hk hz hxy hx hy ih1 ih2 =>
  intro hs hb a b hab
  have hV:=z7u hb hk
  rw [wC,hz,List.mem_append,List.mem_append] at hab
  rcases hab with (hab | hab) | hab
  ·simp only [kN,hk,hxy,letF] at hab
   exact z8a hE hx hs (xF hb (by rw [hxy];simp)) (hE.var _ hV) a b hab
  ·rw [hxy] at hab
   simp only [flowPs,List.append_nil,List.mem_append] at hab
   rcases hab with hab | hab
   ·exact ih1 hs (xF hb (by rw [hxy];simp)) a b hab
   ·exact ih2 (hs.put hV) (xF hb (by rw [hxy];simp)) a b hab
  ·simp [flowPa] at hab
 | @case_ s e x dt u d hk hx hty hd hle hc hta ih1 ih2 =>
  intro hs hb a b hab
  rw [wC,hx,List.mem_append,List.mem_append] at hab
  have arm:∀z∈e.arms,∃i c,e.arms[i]? = some z∧d.cons[i]? = some c:=fun z hz=>by
   obtain ⟨i,hi⟩:=List.getElem?_of_mem hz
   obtain ⟨c,hci⟩:=zX (l:=d.cons) (i:=i) (by have:=(List.getElem?_eq_some_iff.1 hi).1;omega)
   exact ⟨i,c,hi,hci⟩
  rcases hab with (hab | hab) | hab
  ·simp only [kN,hk] at hab
   obtain ⟨z,hz,j,v,hv,h2⟩:=mem_armF.1 hab
   obtain ⟨i,c,hi,hci⟩:=arm z hz
   obtain ⟨c1,c2⟩:=hc i z c hi hci
   cases h2
   have hvl:=(List.getElem?_eq_some_iff.1 hv).1
   refine ⟨?_,hE.var _ (z7t hb hz _ (List.mem_append_left _ (List.mem_of_getElem? hv)))⟩
   rw [c1];exact hE.arm _ _ hd c (List.mem_of_getElem? hci) j (by omega)
  ·simp only [flowPs,List.append_nil] at hab
   exact ih1 hs (xF hb (by rw [hx];simp)) a b hab
  ·obtain ⟨z,hz,h2⟩:=mem_flowPa.1 hab
   obtain ⟨i,c,hi,hci⟩:=arm z hz
   have hb':=z7t hb hz
   exact ih2 i z c hi hci (hs.putAll fun v hv=>hb' v (List.mem_append_left _ hv)) (fun q hq=>hb' q (List.mem_append_right _ hq)) a b h2
 | @op s e x y hk hz hxy hx hy ih1 ih2 =>
  intro hs hb a b hab
  rw [wC,hz,hxy] at hab
  simp only [kN,hk,flowPs,flowPa,List.append_nil,List.mem_append] at hab
  simp only [show ¬(8:Int)=4 by decide,show ¬(8:Int)=5 by decide,show ¬(8:Int)=6 by decide,show ¬(8:Int)=7 by decide,if_false,List.not_mem_nil,false_or] at hab
  rcases hab with hab | hab
  ·exact ih1 hs (xF hb (by rw [hxy];simp)) a b hab
  ·exact ih2 hs (xF hb (by rw [hxy];simp)) a b hab
theorem flow_ok (hE:∀g h,zH T.funs g=some h→zH pm g=some h.params) {s:Scope} {e:Ex} {t:Bs} (h:Tyd T s e t):mE pm e:=by
 induction h with
 | num hk ha hb=>rw [pE,ha,hb];simp [hk,flowOks,flowOka]
 | var hk ha hb=>rw [pE,ha,hb];simp [hk,flowOks,flowOka]
 | inp hk ha hb=>rw [pE,ha,hb];simp [hk,flowOks,flowOka]
 | @con s e m hk hz hm hl hty ih =>
  rw [pE,hz,dM]
  refine ⟨fun h=>(by rw [hk] at h;cases h),fun h=>(by rw [hk] at h;cases h),fun x hx =>?_,trivial⟩
  obtain ⟨i,hi⟩:=List.getElem?_of_mem hx
  obtain ⟨u,hu⟩:=zX (l:=m.con.fields) (i:=i) (by have:=(List.getElem?_eq_some_iff.1 hi).1;omega)
  exact ih i x u hi hu
 | @call s e g hk hz hm hl hty ih =>
  rw [pE,hz,dM]
  refine ⟨fun _=>(by rw [hE _ _ hm];simp [hl]),fun h=>(by rw [hk] at h;cases h),fun x hx =>?_,trivial⟩
  obtain ⟨i,hi⟩:=List.getElem?_of_mem hx
  obtain ⟨u,hu⟩:=zX (l:=g.params) (i:=i) (by have:=(List.getElem?_eq_some_iff.1 hi).1;omega)
  exact ih i x u hi hu
 | let_ hk hz hxy _ _ ih1 ih2 =>
  rw [pE,hz,hxy]
  exact ⟨fun h=>(by rw [hk] at h;cases h),fun _=>(by simp),⟨ih1,ih2,trivial⟩,trivial⟩
 | @case_ s e x dt u d hk hx hty hd hle hc hta ih1 ih2 =>
  rw [pE,hx,tC]
  refine ⟨fun h=>(by rw [hk] at h;cases h),fun h=>(by rw [hk] at h;cases h),⟨ih1,trivial⟩,fun z hz =>?_⟩
  obtain ⟨i,hi⟩:=List.getElem?_of_mem hz
  obtain ⟨c,hci⟩:=zX (l:=d.cons) (i:=i) (by have:=(List.getElem?_eq_some_iff.1 hi).1;omega)
  exact ih2 i z c hi hci
 | op hk hz hxy _ _ ih1 ih2 =>
  rw [pE,hz,hxy]
  exact ⟨fun h=>(by rw [hk] at h;cases h),fun h=>(by rw [hk] at h;cases h),⟨ih1,ih2,trivial⟩,trivial⟩
end
end Go.Sw

namespace Go.Sw
open Go.Proofs.Tryz
open Go.Proofs
set_option maxRecDepth 20000
set_option maxHeartbeats 4000000
mutual
def pU:Ex→Prop
 | .mk k _ s args arms=>(2≤k→k≤6→s.size≤1000)∧args.length≤1000∧tidyEs args∧tidyEa arms
def tidyEs:List Ex→Prop
 | []=>True
 | x::l=>pU x∧tidyEs l
def tidyEa:List Arm→Prop
 | []=>True
 | .mk c vs b::l=>(c.size≤1000∧vs.length≤1000∧(∀v∈vs,v.size≤1000)∧pU b)∧tidyEa l
end
theorem y2o:∀{l:List Ex},tidyEs l↔∀x∈l,pU x
 | []=>by simp [tidyEs]
 | x::l=>by simp only [tidyEs,y2o (l:=l)];simp
theorem y2n:∀{l:List Arm},tidyEa l↔∀a∈l,a.con.size≤1000∧a.vars.length≤1000∧(∀v∈a.vars,v.size≤1000)∧pU a.body
 | []=>by simp [tidyEa]
 | .mk c vs b::l=>by simp only [tidyEa,y2n (l:=l)];simp [Arm.con,Arm.vars,Arm.body]
theorem pV (e:Ex):pU e↔(2≤e.kind→e.kind≤6→e.name.size≤1000)∧e.args.length≤1000∧(∀x∈e.args,pU x)∧∀a∈e.arms,a.con.size≤1000∧a.vars.length≤1000∧(∀v∈a.vars,v.size≤1000)∧pU a.body:=by
 cases e;simp only [pU,y2o,y2n,Ex.kind,Ex.name,Ex.args,Ex.arms]
theorem j3r {f:Bs} {e:Ex} (h2:¬e.kind=2) (h3:¬e.kind=3) (h5:¬e.kind=5) (h6:¬e.kind=6) (h8:¬e.kind=8) (h7:¬e.kind=7):xG f e=[]:=by
 cases e;simp only [Ex.kind] at *;simp [xG,h2,h3,h5,h6,h7,h8]
theorem q2z {f:Bs} {l:List Ex} {i:Nat} {x:Ex} (h:l[i]? = some x):srcPs f (l.drop i)=xG f x++srcPs f (l.drop (i+1)):=by rw [zA h];rfl
theorem j3s {f:Bs} {l:List Ex} {i:Nat} (h:¬i < l.length):srcPs f (l.drop i)=[]:=by rw [zE h];rfl
theorem z3e {f:Bs} {l:List Arm} {i:Nat} {x:Arm} (h:l[i]? = some x):srcPa f (l.drop i)=xG f x.body++srcPa f (l.drop (i+1)):=by rw [zA h,y2i]
theorem y6h {f:Bs} {l:List Arm} {i:Nat} (h:¬i < l.length):srcPa f (l.drop i)=[]:=by rw [zE h];rfl
theorem q9r {f:Bs} {l:List Ex} {x:Ex} (h:l[1]? = some x):srcS f l=xG f x:=by
 match l,h with
 | _::y::_,h=>simp only [List.getElem?_cons_succ,List.getElem?_cons_zero,Option.some.injEq] at h;subst h;rfl
theorem x0x {f:Bs} {l:List Ex} (h:l.length < 2):srcS f l=[]:=by
 match l,h with
 | [],_=>rfl
 | [_],_=>rfl
theorem q9q {f:Bs} {l:List Ex} {x:Ex} (h:l[0]? = some x):srcH f l=xG f x:=by
 match l,h with
 | y::_,h=>simp only [List.getElem?_cons_zero,Option.some.injEq] at h;subst h;rfl
theorem x0u {f:Bs} {l:List Ex} (h:¬0 < l.length):srcH f l=[]:=by
 match l,h with
 | [],_=>rfl
 | _::_,h=>simp at h
theorem y8x {β:Type} {Φ:Fz} {y:Value} {items:List Bs} {KY:List Bs→β→List Res} (hy:Takes prog Φ y (fun s=>[.string s]) items KY) {f:Bs} {q1 q2 q3 q4 q5 q6 q7 q8:Value} (hf:f.size≤1000) {e:Ex} (ih:∀x:Ex,x.sz < e.sz→∀{K0:List Res} {w:World} {d0:List Value} {pre post:List Bs} {z:β},REx Φ d0 x→pU x→items=pre++xG f x++post→Mem Φ (K0++KY pre z) w→Calls prog 146 (List.toArray [.agg (List.toArray [.string f,q1,q2,q3,q4,q5,q6,q7,q8]),.agg d0.toArray,y]) w (fun ee w'=>∃z':β,ee=.returned (.bool true)∧True∧Mem Φ (K0++KY (pre++xG f x) z') w')) {K0:List Res} {w:World} {d0:List Value} {pre post:List Bs} {z:β} (re:REx Φ d0 e) (ht:pU e) (hit:items=pre++xG f e++post) (hm:Mem Φ (K0++KY pre z) w) :
  Calls prog 146 (List.toArray [.agg (List.toArray [.string f,q1,q2,q3,q4,q5,q6,q7,q8]),.agg d0.toArray,y]) w (fun ee w'=>∃z':β,ee=.returned (.bool true)∧True∧Mem Φ (K0++KY (pre++xG f e) z') w'):=by
 have re0_:=re
 obtain ⟨t1_,t2_,t3_,t4_⟩:=(pV e).1 ht
 obtain ⟨p3,c4,p9,c10,rfl,hi13,h2,h8,hm5,hn6,hm11,hn12⟩:=REx.fm re
 refine zL func146 ntmps146 fun Q hQ a he =>?_
 refine Bx fun b15 w hm a he =>?_
 refine Bx fun b16 w hm a he =>?_
 refine go fun a he =>?_
 by_cases h20:e.kind=2
 refine go1 fun a he =>?_
 refine xH ?_
 have hn_:=t1_ (by omega) (by omega)
 refine yO he (by intro c h;cases h) (qQ he rfl) rfl fun a he =>
   yO he (by intro c h;cases h) (qP he rfl q0z rfl) rfl fun a he =>
   yO he (by intro c h;cases h) (yU 1 (vs:=[.string f]) he hm.toSees rfl rfl isAgg78 sizeOf78 rfl rfl) rfl fun a he =>
   yO he (by intro c h;cases h) (qP he rfl tD rfl) rfl fun a he =>
   yO he (by intro c h;cases h) (yS 0 he hm.toSees rfl rfl rfl isAgg9) rfl fun a he =>?_
 refine z9v he rfl rfl rfl (by intro c h;cases h) (gP he rfl call64 (z5h (by omega) (by omega) hm) fun w hm a he =>?_)
 refine tH he rfl rfl rfl (by intro c h;cases h) (vH he rfl rfl (hy.go pre (vrN f e.name) _ z (.blk b16 (ob [.int .i64 (e.kind),.int .i64 (e.num),.string e.name,.slice p3 e.args.length c4,.slice p9 e.arms.length c10] 110)::.blk b15 (ob [.string f,q1,q2,q3,q4,q5,q6,q7,q8] 131)::K0) w (by rw [hit,z3d h20];simp only [List.append_assoc,List.cons_append,List.nil_append,List.append_nil];rfl) hm) fun w hJ_ a he =>?_)
 obtain ⟨z22,hm⟩:=hJ_
 replace hm:=hm.nf
 refine yO he (by intro c h;cases h) (vJ he rfl) rfl fun a he =>?_
 refine pN ?_
 refine zI ?_
 replace hm:=hm.dl [1,0]
 have hz_:items=(pre++[vrN f e.name])++post:=by
  rw [hit,z3d h20]
 rw [hit] at hz_
 rw [mS hz_];exact ⟨_,rfl,trivial,hm⟩
 refine go fun a he =>?_
 by_cases h24:e.kind=3
 refine go1 fun a he =>?_
 refine xH ?_
 have hn_:=t1_ (by omega) (by omega)
 refine yO he (by intro c h;cases h) (qQ he rfl) rfl fun a he =>
   yO he (by intro c h;cases h) (qP he rfl tD rfl) rfl fun a he =>
   yO he (by intro c h;cases h) (yS 0 he hm.toSees rfl rfl rfl isAgg9) rfl fun a he =>
   yO he (by intro c h;cases h) (aY (vs:=[(0,.string e.name)]) (cs:=[.string e.name]) he rfl (by kernel_rfl)) rfl fun a he =>?_
 refine z9v he rfl rfl rfl (by intro c h;cases h) (gP he rfl call40 (z9t (by omega) hm) fun w hm a he =>?_)
 refine tH he rfl rfl rfl (by intro c h;cases h) (vH he rfl rfl (hy.go pre (inN e.name) _ z (.blk b16 (ob [.int .i64 (e.kind),.int .i64 (e.num),.string e.name,.slice p3 e.args.length c4,.slice p9 e.arms.length c10] 110)::.blk b15 (ob [.string f,q1,q2,q3,q4,q5,q6,q7,q8] 131)::K0) w (by rw [hit,z3b h24];simp only [List.append_assoc,List.cons_append,List.nil_append,List.append_nil];rfl) hm) fun w hJ_ a he =>?_)
 obtain ⟨z26,hm⟩:=hJ_
 replace hm:=hm.nf
 refine yO he (by intro c h;cases h) (vJ he rfl) rfl fun a he =>?_
 refine pN ?_
 refine zI ?_
 replace hm:=hm.dl [1,0]
 have hz_:items=(pre++[inN e.name])++post:=by
  rw [hit,z3b h24]
 rw [hit] at hz_
 rw [mS hz_];exact ⟨_,rfl,trivial,hm⟩
 refine go fun a he =>?_
 by_cases h28:e.kind=5
 refine go1 fun a he =>?_
 refine xH ?_
 refine yO he (by intro c h;cases h) (qQ he rfl) rfl fun a he =>
   yO he (by intro c h;cases h) (qP he rfl tD rfl) rfl fun a he =>
   yO he (by intro c h;cases h) (yS 0 he hm.toSees rfl rfl rfl isAgg9) rfl fun a he =>?_
 refine tH he rfl rfl rfl (by intro c h;cases h) (vH he rfl rfl (hy.go pre e.name _ z (.blk b16 (ob [.int .i64 (e.kind),.int .i64 (e.num),.string e.name,.slice p3 e.args.length c4,.slice p9 e.arms.length c10] 110)::.blk b15 (ob [.string f,q1,q2,q3,q4,q5,q6,q7,q8] 131)::K0) w (by rw [hit,uS h28];simp only [List.append_assoc,List.cons_append,List.nil_append,List.append_nil];rfl) hm) fun w hJ_ a he =>?_)
 obtain ⟨z30,hm⟩:=hJ_
 replace hm:=hm.nf
 refine yO he (by intro c h;cases h) (vJ he rfl) rfl fun a he =>?_
 refine pN ?_
 refine zI ?_
 replace hm:=hm.dl [1,0]
 have hz_:items=(pre++[e.name])++post:=by
  rw [hit,uS h28]
 rw [hit] at hz_
 rw [mS hz_];exact ⟨_,rfl,trivial,hm⟩
 by_cases h32:e.kind=6
 refine Reg [1,2,1,1,1,2,1,2,1,2,1,0,1,1] [0,1] fun w hm a he =>?_
 by_cases h34:e.args.length < 2
 refine zI ?_
 replace hm:=hm.dl [1,0]
 have hz_:items=pre++post:=by
  rw [hit,tU h32,x0x h34]
  simp only [List.append_assoc,List.cons_append,List.nil_append,List.append_nil]
 rw [hit] at hz_
 rw [mS hz_];exact ⟨_,rfl,trivial,hm⟩
 refine go fun a he =>?_
 have hb35:1 < e.args.length:=by omega
 obtain ⟨q36,rfl,x37,hx38,cs39,hl40,ha41,hr42⟩:=h2.el hn6 hb35
 obtain ⟨p45,c46,p51,c52,rfl,hi55,h44,h50,hm47,hn48,hm53,hn54⟩:=REx.fm hr42
 refine jF call146 (fun y56 w hG57 hm a he =>?_) (c:=ih _ (Ex.lt_args (List.mem_of_getElem? hx38)) (K0:=_::_::K0) (post:=_) hr42 (t3_ _ (List.mem_of_getElem? hx38)) (by rw [hit,tU h32,q9r hx38]) hm)
 refine zI ?_
 replace hm:=hm.dl [1,0]
 have hz_:items=(pre++xG f x37)++post:=by
  rw [hit,tU h32,q9r hx38]
 rw [hit] at hz_
 rw [mS hz_];exact ⟨_,rfl,trivial,hm⟩
 by_cases h59:e.kind=8
 refine go fun a he =>?_
 refine xD (fun mm a w=>∃(i:Nat) (pr:List Bs) (zz:β),mm=e.args.length - i∧EnvR 96 [(2,y),(3,.pointer (some ⟨b15,0,none⟩)),(54,.slice p3 e.args.length c4),(55,.int .i64 ((e.args.length:Nat):Int)),(56,.int .i64 ((i:Nat):Int))] [] a∧Mem Φ (.blk b16 (ob [.int .i64 (e.kind),.int .i64 (e.num),.string e.name,.slice p3 e.args.length c4,.slice p9 e.arms.length c10] 110)::.blk b15 (ob [.string f,q1,q2,q3,q4,q5,q6,q7,q8] 131)::K0++KY pr zz) w∧(items=pr++(srcPs f (e.args.drop i)++post))) (e.args.length - 0) ⟨0,pre,z,rfl,he.pk,hm,by rw [hit,y8y h59,List.append_assoc];rfl⟩ ?_
 clear hm he
 rintro mm a w ⟨i,pr,zz,hmu,he,hm,hI62⟩ L61 hL61
 by_cases h64:i < e.args.length
 refine go fun a he =>?_
 obtain ⟨q68,rfl,x69,hx70,cs71,hl72,ha73,hr74⟩:=h2.el hn6 h64
 obtain ⟨p77,c78,p83,c84,rfl,hi87,h76,h82,hm79,hn80,hm85,hn86⟩:=REx.fm hr74
 refine Alc fun b88 w hm a he =>?_
 refine Sto 0 fun w hm a he =>?_
 refine jF call146 (fun y90 w hG91 hm a he =>?_) (c:=ih _ (Ex.lt_args (List.mem_of_getElem? hx70)) (K0:=_::_::_::K0) (post:=_) hr74 (t3_ _ (List.mem_of_getElem? hx70)) (by rw [hI62,q2z hx70];simp only [List.append_assoc];rfl) hm)
 refine go fun a he =>?_
 replace hm:=hm.dl [0]
 refine hL61 _ _ _ (by subst hmu;omega) ⟨(i+1),((pr++xG f x69)),(y90),rfl,he.pk,hm,?_⟩
 rw [hI62,q2z hx70];simp only [List.append_assoc]
 refine zI ?_
 replace hm:=hm.dl [1,0]
 have hz_:items=pr++post:=by
  have hi_:=hI62
  rw [j3s h64,List.nil_append] at hi_
  exact hi_
 rw [hit] at hz_
 rw [mS hz_];exact ⟨_,rfl,trivial,hm⟩
 by_cases h95:e.kind=7
 refine Reg [1,2,1,1,1,2,1,2,1,2,1,0,1,1] [0,1] fun w hm a he =>?_
 by_cases h98:0 < e.args.length
 refine go fun a he =>?_
 obtain ⟨q99,rfl,x100,hx101,cs102,hl103,ha104,hr105⟩:=h2.el hn6 h98
 obtain ⟨p108,c109,p114,c115,rfl,hi118,h107,h113,hm110,hn111,hm116,hn117⟩:=REx.fm hr105
 refine jF call146 (fun y119 w hG120 hm a he =>?_) (c:=ih _ (Ex.lt_args (List.mem_of_getElem? hx101)) (K0:=_::_::K0) (post:=_) hr105 (t3_ _ (List.mem_of_getElem? hx101)) (by rw [hit,oC h95,q9q hx101];simp only [List.append_assoc];rfl) hm)
 refine go fun a he =>?_
 refine xD (fun mm a w=>∃(i:Nat) (pr:List Bs) (zz:β),mm=e.arms.length - i∧EnvR 96 [(2,y),(3,.pointer (some ⟨b15,0,none⟩)),(83,.slice p9 e.arms.length c10),(84,.int .i64 ((e.arms.length:Nat):Int)),(85,.int .i64 ((i:Nat):Int))] [] a∧Mem Φ (.blk b16 (ob [.int .i64 (e.kind),.int .i64 (e.num),.string e.name,.slice (some q99) e.args.length c4,.slice p9 e.arms.length c10] 110)::.blk b15 (ob [.string f,q1,q2,q3,q4,q5,q6,q7,q8] 131)::K0++KY pr zz) w∧(items=pr++(srcPa f (e.arms.drop i)++post))) (e.arms.length - 0) ⟨0,(pre++xG f x100),y119,rfl,he.pk,hm,by rw [hit,oC h95,q9q hx101];simp only [List.append_assoc,List.nil_append];rfl⟩ ?_
 clear hm he
 rintro mm a w ⟨i,pr,zz,hmu,he,hm,hI123⟩ L122 hL122
 by_cases h125:i < e.arms.length
 refine go fun a he =>?_
 obtain ⟨q129,rfl,x130,hx131,cs132,hl133,ha134,hr135⟩:=h8.el hn12 h125
 obtain ⟨s136,b142,rfl,h137,h143⟩:=RArm.iff.1 hr135
 obtain ⟨p138,c139,rfl,hm140,hn141⟩:=h137.fm
 obtain ⟨p146,c147,p152,c153,rfl,hi156,h145,h151,hm148,hn149,hm154,hn155⟩:=REx.fm h143
 refine Alc fun b157 w hm a he =>?_
 refine Sto 0 fun w hm a he =>?_
 refine jF call146 (fun y159 w hG160 hm a he =>?_) (c:=ih _ (Ex.lt_arms (List.mem_of_getElem? hx131)) (K0:=_::_::_::K0) (post:=_) h143 ((t4_ _ (List.mem_of_getElem? hx131)).2.2.2) (by rw [hI123,z3e hx131];simp only [List.append_assoc];rfl) hm)
 refine go fun a he =>?_
 replace hm:=hm.dl [0]
 refine hL122 _ _ _ (by subst hmu;omega) ⟨(i+1),((pr++xG f x130.body)),(y159),rfl,he.pk,hm,?_⟩
 rw [hI123,z3e hx131];simp only [List.append_assoc]
 refine zI ?_
 replace hm:=hm.dl [1,0]
 have hz_:items=pr++post:=by
  have hi_:=hI123
  rw [y6h h125,List.nil_append] at hi_
  exact hi_
 rw [hit] at hz_
 rw [mS hz_];exact ⟨_,rfl,trivial,hm⟩
 refine go fun a he =>?_
 refine xD (fun mm a w=>∃(i:Nat) (pr:List Bs) (zz:β),mm=e.arms.length - i∧EnvR 96 [(2,y),(3,.pointer (some ⟨b15,0,none⟩)),(83,.slice p9 e.arms.length c10),(84,.int .i64 ((e.arms.length:Nat):Int)),(85,.int .i64 ((i:Nat):Int))] [] a∧Mem Φ (.blk b16 (ob [.int .i64 (e.kind),.int .i64 (e.num),.string e.name,.slice p3 e.args.length c4,.slice p9 e.arms.length c10] 110)::.blk b15 (ob [.string f,q1,q2,q3,q4,q5,q6,q7,q8] 131)::K0++KY pr zz) w∧(items=pr++(srcPa f (e.arms.drop i)++post))) (e.arms.length - 0) ⟨0,pre,z,rfl,he.pk,hm,by rw [hit,oC h95,x0u h98];simp only [List.append_assoc,List.nil_append];rfl⟩ ?_
 clear hm he
 rintro mm a w ⟨i,pr,zz,hmu,he,hm,hI165⟩ L164 hL164
 by_cases h167:i < e.arms.length
 refine go fun a he =>?_
 obtain ⟨q171,rfl,x172,hx173,cs174,hl175,ha176,hr177⟩:=h8.el hn12 h167
 obtain ⟨s178,b184,rfl,h179,h185⟩:=RArm.iff.1 hr177
 obtain ⟨p180,c181,rfl,hm182,hn183⟩:=h179.fm
 obtain ⟨p188,c189,p194,c195,rfl,hi198,h187,h193,hm190,hn191,hm196,hn197⟩:=REx.fm h185
 refine Alc fun b199 w hm a he =>?_
 refine Sto 0 fun w hm a he =>?_
 refine jF call146 (fun y201 w hG202 hm a he =>?_) (c:=ih _ (Ex.lt_arms (List.mem_of_getElem? hx173)) (K0:=_::_::_::K0) (post:=_) h185 ((t4_ _ (List.mem_of_getElem? hx173)).2.2.2) (by rw [hI165,z3e hx173];simp only [List.append_assoc];rfl) hm)
 refine go fun a he =>?_
 replace hm:=hm.dl [0]
 refine hL164 _ _ _ (by subst hmu;omega) ⟨(i+1),((pr++xG f x172.body)),(y201),rfl,he.pk,hm,?_⟩
 rw [hI165,z3e hx173];simp only [List.append_assoc]
 refine zI ?_
 replace hm:=hm.dl [1,0]
 have hz_:items=pr++post:=by
  have hi_:=hI165
  rw [y6h h167,List.nil_append] at hi_
  exact hi_
 rw [hit] at hz_
 rw [mS hz_];exact ⟨_,rfl,trivial,hm⟩
 refine zI ?_
 replace hm:=hm.dl [1,0]
 have hz_:items=pre++post:=by
  rw [hit,j3r (by assumption) (by assumption) (by assumption) (by assumption) (by assumption) (by assumption),List.append_nil]
 rw [hit] at hz_
 rw [mS hz_];exact ⟨_,rfl,trivial,hm⟩
theorem q7f {β:Type} {Φ:Fz} {y:Value} {items:List Bs} {KY:List Bs→β→List Res} (hy:Takes prog Φ y (fun s=>[.string s]) items KY) {f:Bs} {q1 q2 q3 q4 q5 q6 q7 q8:Value} (hf:f.size≤1000) {e:Ex} {K0:List Res} {w:World} {d0:List Value} {pre post:List Bs} {z:β} (re:REx Φ d0 e) (ht:pU e) (hit:items=pre++xG f e++post) (hm:Mem Φ (K0++KY pre z) w) :
  Calls prog 146 (List.toArray [.agg (List.toArray [.string f,q1,q2,q3,q4,q5,q6,q7,q8]),.agg d0.toArray,y]) w (fun ee w'=>∃z':β,ee=.returned (.bool true)∧True∧Mem Φ (K0++KY (pre++xG f e) z') w'):=by
 have:∀(n:Nat) (e:Ex),e.sz < n→∀{K0:List Res} {w:World} {d0:List Value} {pre post:List Bs} {z:β},REx Φ d0 e→pU e→items=pre++xG f e++post→Mem Φ (K0++KY pre z) w →
   Calls prog 146 (List.toArray [.agg (List.toArray [.string f,q1,q2,q3,q4,q5,q6,q7,q8]),.agg d0.toArray,y]) w (fun ee w'=>∃z':β,ee=.returned (.bool true)∧True∧Mem Φ (K0++KY (pre++xG f e) z') w'):=by
  intro n
  induction n with
  | zero=>intro e h;omega
  | succ n ih=>intro e h K0 w d0 pre post z re ht hit hm;exact y8x hy hf (fun x hx K0 w d0 pre post z r t h1 h2=>ih x (by omega) r t h1 h2) re ht hit hm
 exact this _ e (Nat.lt_succ_self _) re ht hit hm
end Go.Sw

namespace Go.Sw
open Go.Proofs.Tryz
open Go.Proofs
set_option maxRecDepth 20000
set_option maxHeartbeats 4000000
theorem hasN {l:List Bs} {s:Bs}:has l s=true↔s∈l:=by simp [has]
theorem nubL_in {l:List Bs} {x:Bs} (h:has (yW l) x=true):yW (l++[x])=yW l:=by rw [nQ,if_pos (hasN.1 h)]
theorem q1w {l:List Bs} {x:Bs} (h:has (yW l) x=false):yW (l++[x])=yW l++[x]:=by
 rw [nQ,if_neg (fun hc=>by rw [hasN.2 hc] at h;cases h)]
theorem j9h {α:Type} [DecidableEq α] (l m:List α):∃r,yW (l++m)=yW l++r:=by
 refine nG (p:=fun m=>∃r,yW (l++m)=yW l++r) ⟨[],by simp⟩ (fun m x ih =>?_) m
 obtain ⟨r,hr⟩:=ih
 rw [← List.append_assoc,nQ]
 split
 exact ⟨r,hr⟩
 exact ⟨r++[x],by rw [hr,List.append_assoc]⟩
theorem j2z {l pre post:List Bs} {x:Bs} (hit:l=pre++x::post) (h:has (yW pre) x=false):∃po,yW l=yW pre++x::po:=by
 obtain ⟨r,hr⟩:=j9h (pre++[x]) post
 refine ⟨r,?_⟩
 rw [hit,show pre++x::post=(pre++[x])++post by simp,hr,q1w h];simp
theorem j1j {β:Type} {Φ:Fz} {w:World} {l:List Bs} {y:Value} {KY:List Bs→β→List Res} (hy:Takes prog Φ y (fun s=>[.string s]) (yW l) KY) {pre post:List Bs} {x:Bs} {z:β} {b4 b3 mb:Nat} {K0:List Res} (hit:l=pre++x::post) (hm:Mem Φ (.blk b4 (ob [.map (some mb)] 198)::.mp mb (pL (yW pre))::.blk b3 (ob [y] 141)::(K0++KY (yW pre) z)) w) :
  Calls prog 147 (List.toArray [.string x,.pointer (some ⟨b4,0,none⟩),.pointer (some ⟨b3,0,none⟩)]) w (fun ee w'=>ee=.returned (.bool true)∧∃z':β,Mem Φ (.blk b4 (ob [.map (some mb)] 198)::.mp mb (pL (yW (pre++[x])))::.blk b3 (ob [y] 141)::(K0++KY (yW (pre++[x])) z')) w'):=by
 refine zL func147 ntmps147 fun Q hQ a he =>?_
 refine go fun a he =>?_
 rcases hf4:yA ((pL (yW pre))) x with _ | vf5
 have hf4_:=congrArg (zF false (.bool false)) hf4
 refine Qq (fun a he =>?_) (o:=by exact fun he hs=>Ok.cast (zQ 1 runUnderlying198 runUnderlying9 zeroValue4 he hs rfl rfl rfl) (show zF false (.bool false) (yA ((pL (yW pre))) x)=.bool false from hf4_))
 have hn_:=y2c hf4
 obtain ⟨po_,hpo_⟩:=j2z hit hn_
 refine uX 1 runUnderlying198 runUnderlying9 fun w hm a he =>?_
 refine go1 fun a he =>?_
 refine xH ?_
 refine yO he (by intro c h;cases h) (yS 2 he hm.toSees rfl rfl rfl isAgg141) rfl fun a he =>
   yO he (by intro c h;cases h) (qQ he rfl) rfl fun a he =>?_
 refine tH he rfl rfl rfl (by intro c h;cases h) (vH he rfl rfl (hy.go (yW pre) x _ z (.blk b4 (ob [.map (some mb)] 198)::.mp mb (mZ (pL (yW pre)) x (.bool true))::.blk b3 (ob [y] 141)::K0) w (hpo_) hm) fun w hJ_ a he =>?_)
 obtain ⟨z8,hm⟩:=hJ_
 replace hm:=hm.nf
 refine yO he (by intro c h;cases h) (vJ he rfl) rfl fun a he =>?_
 refine pN ?_
 refine zI ?_
 rw [q1w hn_,z1e];exact ⟨rfl,_,hm⟩
 obtain ⟨rfl,hs9⟩:=y2d hf4
 have hf4_:=congrArg (zF false (.bool false)) hf4
 refine Qq (fun a he =>?_) (o:=by exact fun he hs=>Ok.cast (zQ 1 runUnderlying198 runUnderlying9 zeroValue4 he hs rfl rfl rfl) (show zF false (.bool false) (yA ((pL (yW pre))) x)=.bool true from hf4_))
 refine zI ?_
 rw [nubL_in hs9];exact ⟨rfl,_,hm⟩
theorem Mem.mid3 {Φ:Fz} {w:World} {a b c:Res} {K0 K:List Res} (h:Mem Φ (K0++(a::b::c::K)) w):Mem Φ (a::b::c::(K0++K)) w:=Mem.mid (A:=K0) (B:=[a,b,c]) (C:=K) h
theorem Mem.unmid3 {Φ:Fz} {w:World} {a b c:Res} {K0 K:List Res} (h:Mem Φ (a::b::c::(K0++K)) w):Mem Φ (K0++(a::b::c::K)) w:=Mem.mid (A:=[a,b,c]) (B:=K0) (C:=K) h
theorem q1c {β:Type} {Φ:Fz} {w:World} {f:Bs} {q1 q2 q3 q4 q5 q6 q7 q8:Value} {d0:List Value} {e:Ex} {y:Value} {KY:List Bs→β→List Res} {z:β} {b1 b2:Nat} (hf:f.size≤1000) (re:REx Φ d0 e) (ht:pU e) (hy:Takes prog Φ y (fun s=>[.string s]) (sQ f e) KY) (hm:Mem Φ (.blk b1 (ob [.string f,q1,q2,q3,q4,q5,q6,q7,q8] 131)::.blk b2 (ob d0 110)::KY [] z) w) :
  Calls prog 145 (List.toArray [y,.pointer (some ⟨b1,0,none⟩),.pointer (some ⟨b2,0,none⟩)]) w (fun ee w'=>∃z':β,ee=.returned (.tuple #[])∧True∧Mem Φ (.blk b1 (ob [.string f,q1,q2,q3,q4,q5,q6,q7,q8] 131)::.blk b2 (ob d0 110)::KY (sQ f e) z') w'):=by
 obtain ⟨yf_,ya_,yc_,hyv_⟩:=hy.fn
 subst hyv_
 have re0_:=re
 obtain ⟨p3,c4,p9,c10,rfl,hi13,h2,h8,hm5,hn6,hm11,hn12⟩:=REx.fm re
 refine zL func145 ntmps145 fun Q hQ a he =>?_
 refine Bx fun b15 w hm a he =>?_
 refine MkM fun b17 w hm a he =>?_
 refine Alc fun b18 w hm a he =>?_
 refine Sto 0 fun w hm a he =>?_
 refine go fun a he =>?_
 replace hm:=hm.ar [] [2,2,2,4,4]
 refine jF call146 (fun y19 w hG20 hm a he =>?_) (c:=q7f (KY:=fun pre_ z_=>.blk b18 (ob [.map (some b17)] 198)::.mp b17 (pL (yW pre_))::.blk b15 (ob [.func yf_ ya_ yc_] 141)::KY (yW pre_) z_) (items:=xG f e) (K0:=[.blk b1 (ob [.string f,q1,q2,q3,q4,q5,q6,q7,q8] 131),.blk b2 (ob [.int .i64 (e.kind),.int .i64 (e.num),.string e.name,.slice p3 e.args.length c4,.slice p9 e.arms.length c10] 110)]) (pre:=[]) (post:=[]) (z:=z) (y:=.func (.func 147) (List.toArray []) (List.toArray [.pointer (some ⟨b18,0,none⟩),.pointer (some ⟨b15,0,none⟩)])) ⟨⟨_,_,_,rfl⟩,fun pre_ x_ post_ z_ K0_ w_ hit_ hm_=>.inl ⟨147,[],_,rfl,call147,(j1j hy hit_ (Mem.mid3 hm_)).mono fun e_ w_ h_=>let ⟨h1_,z1_,h2_⟩:=h_;⟨h1_,z1_,Mem.unmid3 h2_⟩⟩⟩ hf re0_ ht (by simp) hm)
 refine go fun a he =>?_
 replace hm:=hm.dl [4,3,2]
 refine hQ _ _ _ (y5y he results145 ?_)
 exact ⟨_,rfl,trivial,hm⟩
theorem q8u {Φ:Fz} {K:List Res} {w:World} {f:Bs} {q1 q2 q3 q4 q5 q6 q7 q8:Value} {d0:List Value} {e:Ex} (re:REx Φ d0 e) (hm:Mem Φ K w) :
  Calls prog 103 (List.toArray [.agg (List.toArray [.string f,q1,q2,q3,q4,q5,q6,q7,q8]),.agg d0.toArray]) w (fun ee w'=>∃b:Nat×Nat,ee=.returned (.func (.func 145) (List.toArray []) (List.toArray [.pointer (some ⟨b.1,0,none⟩),.pointer (some ⟨b.2,0,none⟩)]))∧True∧Mem Φ (.blk b.1 (ob [.string f,q1,q2,q3,q4,q5,q6,q7,q8] 131)::.blk b.2 (ob d0 110)::K) w'):=by
 obtain ⟨p3,c4,p9,c10,rfl,hi13,h2,h8,hm5,hn6,hm11,hn12⟩:=REx.fm re
 refine zL func103 ntmps103 fun Q hQ a he =>?_
 refine Bx fun b15 w hm a he =>?_
 refine Bx fun b16 w hm a he =>?_
 replace hm:=hm.pl 1
 refine zI ?_
 exact ⟨(b15,b16),rfl,trivial,hm⟩
end Go.Sw

namespace Go.Sw
open Go.Proofs.Tryz
open Go.Proofs
set_option maxRecDepth 20000
set_option maxHeartbeats 4000000
abbrev flV:Flow→List Value:=fun s=>[.agg (List.toArray [.string s.1,.string s.2])]
theorem j4l {α:Type} {a b c:List α} (h:a++c=b++c):a=b:=List.append_cancel_right h
section
variable {pm:Pars} {f s:Bs} {e:Ex}
theorem j1m (h:e.kind=4):kN pm f e=z6n f e.name 0 e.args:=by rw [kN,if_pos h]
theorem q4v (h:e.kind=5):kN pm f e=dK f e.name ((zH pm e.name).getD []) e.args:=by rw [kN,if_neg (by omega),if_pos h]
theorem y4v (h:e.kind=6):kN pm f e=letF f e.name e.args:=by rw [kN,if_neg (by omega),if_neg (by omega),if_pos h]
theorem q4w (h:e.kind=7):kN pm f e=z1n f e.arms:=by rw [kN,if_neg (by omega),if_neg (by omega),if_neg (by omega),if_pos h]
theorem q4x (h4:¬e.kind=4) (h5:¬e.kind=5) (h6:¬e.kind=6) (h7:¬e.kind=7):kN pm f e=[]:=by rw [kN,if_neg h4,if_neg h5,if_neg h6,if_neg h7]
theorem q8n {l:List Ex} {i:Nat} {x:Ex} (h:l[i]? = some x):z6n f s i (l.drop i)=toP f (wQ s i) x++z6n f s (i+1) (l.drop (i+1)):=by rw [zA h];rfl
theorem j4v {l:List Ex} {i:Nat} (h:¬i < l.length):z6n f s i (l.drop i)=[]:=by rw [zE h];rfl
theorem y9w {ps:List Param} {l:List Ex} {i:Nat} {x:Ex} {p:Param} (h:l[i]? = some x) (hp:ps[i]? = some p):dK f s (ps.drop i) (l.drop i)=toP f (vrN s p.name) x++dK f s (ps.drop (i+1)) (l.drop (i+1)):=by rw [zA h,zA hp];rfl
theorem j0g {ps:List Param} {l:List Ex} {i:Nat} (h:¬i < l.length):dK f s (ps.drop i) (l.drop i)=[]:=by rw [zE h];cases ps.drop i <;> rfl
theorem q8y {l:List Ex} {x:Ex} (h:l[0]? = some x):letF f s l=toP f (vrN f s) x:=by
 match l,h with
 | y::_,h=>simp only [List.getElem?_cons_zero,Option.some.injEq] at h;subst h;rfl
theorem armF_at {l:List Arm} {i:Nat} {x:Arm} (h:l[i]? = some x):z1n f (l.drop i)=z7r f x.con 0 x.vars++z1n f (l.drop (i+1)):=by rw [zA h];rfl
theorem j4n {l:List Arm} {i:Nat} (h:¬i < l.length):z1n f (l.drop i)=[]:=by rw [zE h];rfl
theorem q9v {l:List Bs} {k:Nat} {v:Bs} (h:l[k]? = some v):z7r f s k (l.drop k)=(wQ s k,vrN f v)::z7r f s (k+1) (l.drop (k+1)):=by rw [zA h];rfl
theorem x1k {l:List Bs} {k:Nat} (h:¬k < l.length):z7r f s k (l.drop k)=[]:=by rw [zE h];rfl
theorem y4o {l:List Ex} {i:Nat} {x:Ex} (h:l[i]? = some x):flowPs pm f (l.drop i)=vL pm f x++flowPs pm f (l.drop (i+1)):=by rw [zA h];rfl
theorem q4p {l:List Ex} {i:Nat} (h:¬i < l.length):flowPs pm f (l.drop i)=[]:=by rw [zE h];rfl
theorem y4n {l:List Arm} {i:Nat} {x:Arm} (h:l[i]? = some x):flowPa pm f (l.drop i)=vL pm f x.body++flowPa pm f (l.drop (i+1)):=by rw [zA h,z5t]
theorem q4o {l:List Arm} {i:Nat} (h:¬i < l.length):flowPa pm f (l.drop i)=[]:=by rw [zE h];rfl
end
theorem z9l {β:Type} {Φ:Fz} {w:World} {y:Value} {items:List Flow} {KY:List Flow→β→List Res} (hy:Takes prog Φ y flV items KY) {f:Bs} {q1 q2 q3 q4 q5 q6 q7 q8:Value} (hf:f.size≤1000) {d0:List Value} {e:Ex} {node:Bs} {p0 q0:List Flow} {z0:β} {b5 b7:Nat} {K0:List Res} (re:REx Φ d0 e) (ht:pU e) (hit0:items=p0++toP f node e++q0) (hm:Mem Φ (.blk b5 (ob [.string f,q1,q2,q3,q4,q5,q6,q7,q8] 131)::.blk b7 (ob [y] 143)::(K0++KY p0 z0)) w) :
  Calls prog 148 (List.toArray [.agg d0.toArray,.string node,.pointer (some ⟨b5,0,none⟩),.pointer (some ⟨b7,0,none⟩)]) w (fun ee w'=>∃z':β,ee=.returned (.bool true)∧True∧Mem Φ (.blk b5 (ob [.string f,q1,q2,q3,q4,q5,q6,q7,q8] 131)::.blk b7 (ob [y] 143)::(K0++KY (p0++toP f node e) z')) w'):=by
 have re0_:=re
 obtain ⟨p3,c4,p9,c10,rfl,hi13,h2,h8,hm5,hn6,hm11,hn12⟩:=REx.fm re
 refine z4b func148 rfl ntmps148 rfl (fun Q hQ a he =>?_)
 refine Bx fun b15 w hm a he =>?_
 refine Bx fun b16 w hm a he =>?_
 refine Alc fun b17 w hm a he =>?_
 refine jF call103 (fun y20 w hG21 hm a he =>?_) (c:=q8u re hm)
 refine go fun a he =>?_
 refine z5j (p:=11) (sQ f e) (fun x=>.string x) [.blk y20.1 (ob [.string f,q1,q2,q3,q4,q5,q6,q7,q8] 131),.blk y20.2 (ob [.int .i64 (e.kind),.int .i64 (e.num),.string e.name,.slice p3 e.args.length c4,.slice p9 e.arms.length c10] 110)] (fun pre z=>.blk b17 (ob [.bool false] 4)::.blk b16 (ob [.string node] 9)::.blk b15 (ob [.int .i64 (e.kind),.int .i64 (e.num),.string e.name,.slice p3 e.args.length c4,.slice p9 e.arms.length c10] 110)::.blk b5 (ob [.string f,q1,q2,q3,q4,q5,q6,q7,q8] 131)::.blk b7 (ob [y] 143)::K0++KY (p0++pre.map (fun s=>(s,node))) z) z0 he (by simpa using hm.nf) rfl call145 rfl (fun pre x post z l_ o1_ o2_ K1_ a w hit he hm =>?_) (fun y_ KY_ w hy_ hm =>?_) (fun Dk z a w he hm =>?_)
 replace hm:=hm.nf
 replace hm:Mem Φ (.blk l_ o1_::.blk b17 (ob [.bool false] 4)::.blk b16 (ob [.string node] 9)::.blk b15 (ob [.int .i64 (e.kind),.int .i64 (e.num),.string e.name,.slice p3 e.args.length c4,.slice p9 e.arms.length c10] 110)::.blk b5 (ob [.string f,q1,q2,q3,q4,q5,q6,q7,q8] 131)::.blk b7 (ob [y] 143)::(K1_++K0)++KY (p0++pre.map (fun s=>(s,node))) z) w:=Mem.rot (A:=[.blk l_ o1_,.blk b17 (ob [.bool false] 4),.blk b16 (ob [.string node] 9),.blk b15 (ob [.int .i64 (e.kind),.int .i64 (e.num),.string e.name,.slice p3 e.args.length c4,.slice p9 e.arms.length c10] 110),.blk b5 (ob [.string f,q1,q2,q3,q4,q5,q6,q7,q8] 131),.blk b7 (ob [y] 143)]) hm
 refine regI ?_
 refine yO he (by intro c h;cases h) (vJ he rfl) rfl fun a he =>?_
 refine pN ?_
 refine ⟨_,hm,fun w hm =>?_⟩
 replace hm:=hm.nf
 refine blkI ?_
 refine sqI fun L22 hL22 =>?_
 refine regI ?_
 refine yO he (by intro c h;cases h) (yS 5 he hm.toSees rfl rfl rfl isAgg143) rfl fun a he =>
   yO he (by intro c h;cases h) (qQ he rfl) rfl fun a he =>
   yO he (by intro c h;cases h) (yS 2 he hm.toSees rfl rfl rfl isAgg9) rfl fun a he =>
   yO he (by intro c h;cases h) (aY (vs:=[(0,.string x),(1,.string node)]) (cs:=[.string x,.string node]) he rfl (by kernel_rfl)) rfl fun a he =>?_
 refine tH he rfl rfl rfl (by intro c h;cases h) (vH he rfl rfl (hy.go (p0++pre.map (fun s=>(s,node))) (x,node) _ z (.blk l_ o2_::.blk b17 (ob [.bool false] 4)::.blk b16 (ob [.string node] 9)::.blk b15 (ob [.int .i64 (e.kind),.int .i64 (e.num),.string e.name,.slice p3 e.args.length c4,.slice p9 e.arms.length c10] 110)::.blk b5 (ob [.string f,q1,q2,q3,q4,q5,q6,q7,q8] 131)::.blk b7 (ob [y] 143)::(K1_++K0)) w (by rw [hit0,toP,hit];simp only [List.map_append,List.map_cons,List.append_assoc,List.cons_append];rfl) hm) fun w hJ_ a he =>?_)
 obtain ⟨z23,hm⟩:=hJ_
 replace hm:=hm.nf
 refine yO he (by intro c h;cases h) (uC he rfl) rfl fun a he =>?_
 refine pN ?_
 refine hL22 _ _ ?_
 refine if_fI he rfl ?_
 refine skipI ?_
 refine ⟨rfl,z23,?_⟩
 rw [List.map_append,List.map_cons,List.map_nil,← List.append_assoc]
 exact Mem.unrot (A:=[.blk l_ o2_,.blk b17 (ob [.bool false] 4),.blk b16 (ob [.string node] 9),.blk b15 (ob [.int .i64 (e.kind),.int .i64 (e.num),.string e.name,.slice p3 e.args.length c4,.slice p9 e.arms.length c10] 110),.blk b5 (ob [.string f,q1,q2,q3,q4,q5,q6,q7,q8] 131),.blk b7 (ob [y] 143)]) hm
 exact (q1c hf re0_ ht hy_ hm).mono fun e_ w h=>let ⟨z,h1,_,h2⟩:=h;⟨_,z,h1,h2⟩
 replace hm:Mem Φ (.blk y20.1 (ob [.string f,q1,q2,q3,q4,q5,q6,q7,q8] 131)::.blk y20.2 (ob [.int .i64 (e.kind),.int .i64 (e.num),.string e.name,.slice p3 e.args.length c4,.slice p9 e.arms.length c10] 110)::.blk b17 (ob [.bool false] 4)::.blk b16 (ob [.string node] 9)::.blk b15 (ob [.int .i64 (e.kind),.int .i64 (e.num),.string e.name,.slice p3 e.args.length c4,.slice p9 e.arms.length c10] 110)::.blk b5 (ob [.string f,q1,q2,q3,q4,q5,q6,q7,q8] 131)::.blk b7 (ob [y] 143)::xX (Dk::[])++K0++KY (p0++(sQ f e).map (fun s=>(s,node))) z) w:=Mem.mid (A:=[.blk Dk (.deferred (some []))]) (B:=[.blk y20.1 (ob [.string f,q1,q2,q3,q4,q5,q6,q7,q8] 131),.blk y20.2 (ob [.int .i64 (e.kind),.int .i64 (e.num),.string e.name,.slice p3 e.args.length c4,.slice p9 e.arms.length c10] 110),.blk b17 (ob [.bool false] 4),.blk b16 (ob [.string node] 9),.blk b15 (ob [.int .i64 (e.kind),.int .i64 (e.num),.string e.name,.slice p3 e.args.length c4,.slice p9 e.arms.length c10] 110),.blk b5 (ob [.string f,q1,q2,q3,q4,q5,q6,q7,q8] 131),.blk b7 (ob [y] 143)]) (C:=xX []++K0++KY (p0++(sQ f e).map (fun s=>(s,node))) z) hm
 refine Sto 2 fun w hm a he =>?_
 refine go fun a he =>?_
 replace hm:=hm.dl [4,3,1,0]
 replace hm:Mem Φ (xX (Dk::[])++(.blk b17 (ob [.bool true] 4)::.blk b5 (ob [.string f,q1,q2,q3,q4,q5,q6,q7,q8] 131)::.blk b7 (ob [y] 143)::K0++KY (p0++(sQ f e).map (fun s=>(s,node))) z)) w:=Mem.mid (A:=[.blk b17 (ob [.bool true] 4),.blk b5 (ob [.string f,q1,q2,q3,q4,q5,q6,q7,q8] 131),.blk b7 (ob [y] 143)]) (B:=xX (Dk::[])) (C:=K0++KY (p0++(sQ f e).map (fun s=>(s,node))) z) hm
 refine hQ _ _ _ (retXc (ds:=(Dk::[])) (v:=.bool true) he results148 rfl isAgg4 hm fun w hm =>?_)
 exact ⟨_,rfl,trivial,hm⟩
end Go.Sw

namespace Go.Sw
open Go.Proofs.Tryz
open Go.Proofs
set_option maxRecDepth 20000
set_option maxHeartbeats 4000000
theorem j1g {β:Type} {Φ:Fz} {y:Value} {items:List Flow} {KY:List Flow→β→List Res} (hy:Takes prog Φ y flV items KY) {gb pmb:Nat} {s1 s2 s3 s4 nd:Value} (hv:∀pre z K0 w,Mem Φ (K0++KY pre z) w→∃u v x,Sees Φ [.blk gb (ob [s1,s2,s3,s4,nd,u,.map (some pmb),v,x] 75)] w) {m:List (Bs×Value)} {pmL:Pars} (hpm:MapAt Φ pmb m) (hpr:MapRel (fun v x=>SliceOf RParam Φ 2 v x) m pmL) (hps:∀n ps,zH pmL n=some ps→∀p∈ps,p.name.size≤1000) (G:Glob Φ) {f:Bs} {q1 q2 q3 q4 q5 q6 q7 q8:Value} (hf:f.size≤1000) {e:Ex} (ih:∀x:Ex,x.sz < e.sz→∀{K0:List Res} {w:World} {d0:List Value} {p0 q0:List Flow} {z0:β},REx Φ d0 x→pU x→mE pmL x→items=p0++vL pmL f x++q0→Mem Φ (K0++KY p0 z0) w→Calls prog 104 (List.toArray [.pointer (some ⟨gb,0,none⟩),.agg (List.toArray [.string f,q1,q2,q3,q4,q5,q6,q7,q8]),.agg d0.toArray,y]) w (fun ee w'=>∃z':β,ee=.returned (.bool true)∧True∧Mem Φ (K0++KY (p0++vL pmL f x) z') w')) {K0:List Res} {w:World} {d0:List Value} {p0 q0:List Flow} {z0:β} (re:REx Φ d0 e) (ht:pU e) (hok:mE pmL e) (hit:items=p0++vL pmL f e++q0) (hm:Mem Φ (K0++KY p0 z0) w) :
  Calls prog 104 (List.toArray [.pointer (some ⟨gb,0,none⟩),.agg (List.toArray [.string f,q1,q2,q3,q4,q5,q6,q7,q8]),.agg d0.toArray,y]) w (fun ee w'=>∃z':β,ee=.returned (.bool true)∧True∧Mem Φ (K0++KY (p0++vL pmL f e) z') w'):=by
 obtain ⟨yf_,ya_,yc_,hyv_⟩:=hy.fn
 subst hyv_
 have re0_:=re
 obtain ⟨t1_,t2_,t3_,t4_⟩:=(pV e).1 ht
 obtain ⟨o5_,o6_,oa_,ob_⟩:=(pE e).1 hok
 rw [dM] at oa_
 rw [tC] at ob_
 have hit0_:=hit
 rw [wC,List.append_assoc,List.append_assoc,List.append_assoc] at hit0_
 obtain ⟨p3,c4,p9,c10,rfl,hi13,h2,h8,hm5,hn6,hm11,hn12⟩:=REx.fm re
 refine zL func104 ntmps104 fun Q hQ a he =>?_
 refine Bx fun b15 w hm a he =>?_
 refine Bx fun b16 w hm a he =>?_
 refine Bx fun b17 w hm a he =>?_
 refine goJ 31 fun a he =>?_
 refine sq fun L19 hL19 =>?_
 have hJ20:∀a w,(∃(pr:List Flow) (zz:β),EnvR 150 [(0,.pointer (some ⟨gb,0,none⟩)),(5,.pointer (some ⟨b15,0,none⟩)),(6,.pointer (some ⟨b16,0,none⟩)),(7,.pointer (some ⟨b17,0,none⟩))] [] a∧Mem Φ (.blk b17 (ob [.func yf_ ya_ yc_] 143)::.blk b16 (ob [.int .i64 (e.kind),.int .i64 (e.num),.string e.name,.slice p3 e.args.length c4,.slice p9 e.arms.length c10] 110)::.blk b15 (ob [.string f,q1,q2,q3,q4,q5,q6,q7,q8] 131)::K0++KY pr zz) w∧(items=pr++(flowPs pmL f e.args++(flowPa pmL f e.arms++q0))))→L19 a w:=by
  clear hm he
  rintro a w ⟨pr,zz,he,hm,hI21⟩
  refine hL19 _ _ ?_
  refine go fun a he =>?_
  refine xD (fun mm a w=>∃(i:Nat) (pr:List Flow) (zz:β),mm=e.args.length - i∧EnvR 150 [(0,.pointer (some ⟨gb,0,none⟩)),(5,.pointer (some ⟨b15,0,none⟩)),(6,.pointer (some ⟨b16,0,none⟩)),(7,.pointer (some ⟨b17,0,none⟩)),(122,.slice p3 e.args.length c4),(123,.int .i64 ((e.args.length:Nat):Int)),(124,.int .i64 ((i:Nat):Int))] [] a∧Mem Φ (.blk b17 (ob [.func yf_ ya_ yc_] 143)::.blk b16 (ob [.int .i64 (e.kind),.int .i64 (e.num),.string e.name,.slice p3 e.args.length c4,.slice p9 e.arms.length c10] 110)::.blk b15 (ob [.string f,q1,q2,q3,q4,q5,q6,q7,q8] 131)::K0++KY pr zz) w∧(items=pr++(flowPs pmL f (e.args.drop i)++(flowPa pmL f e.arms++q0)))) (e.args.length - 0) ⟨0,pr,zz,rfl,he.pk,hm,by rw [hI21];rfl⟩ ?_
  clear hm he
  rintro mm a w ⟨i,pr,zz,hmu,he,hm,hI25⟩ L24 hL24
  by_cases h27:i < e.args.length
  refine go fun a he =>?_
  obtain ⟨q31,rfl,x32,hx33,cs34,hl35,ha36,hr37⟩:=h2.el hn6 h27
  obtain ⟨p40,c41,p46,c47,rfl,hi50,h39,h45,hm42,hn43,hm48,hn49⟩:=REx.fm hr37
  refine Alc fun b51 w hm a he =>?_
  refine Sto 0 fun w hm a he =>?_
  refine jF call104 (fun y53 w hG54 hm a he =>?_) (c:=ih _ (Ex.lt_args (List.mem_of_getElem? hx33)) (K0:=(.blk b51 (ob [.int .i64 (x32.kind),.int .i64 (x32.num),.string x32.name,.slice p40 x32.args.length c41,.slice p46 x32.arms.length c47] 110)::.blk b17 (ob [.func yf_ ya_ yc_] 143)::.blk b16 (ob [.int .i64 (e.kind),.int .i64 (e.num),.string e.name,.slice (some q31) e.args.length c4,.slice p9 e.arms.length c10] 110)::.blk b15 (ob [.string f,q1,q2,q3,q4,q5,q6,q7,q8] 131)::K0)) (q0:=_) hr37 (t3_ _ (List.mem_of_getElem? hx33)) (oa_ _ (List.mem_of_getElem? hx33)) (by rw [hI25,y4o hx33];simp only [List.append_assoc,List.cons_append,List.nil_append];rfl) hm)
  refine go fun a he =>?_
  replace hm:=hm.dl [0]
  refine hL24 _ _ _ (by subst hmu;omega) ⟨(i+1),((pr++vL pmL f x32)),(y53),rfl,he.pk,hm,?_⟩
  rw [hI25,y4o hx33];simp only [List.append_assoc,List.cons_append,List.nil_append]
  refine go fun a he =>?_
  refine xD (fun mm a w=>∃(i:Nat) (pr:List Flow) (zz:β),mm=e.arms.length - i∧EnvR 150 [(0,.pointer (some ⟨gb,0,none⟩)),(5,.pointer (some ⟨b15,0,none⟩)),(7,.pointer (some ⟨b17,0,none⟩)),(136,.slice p9 e.arms.length c10),(137,.int .i64 ((e.arms.length:Nat):Int)),(138,.int .i64 ((i:Nat):Int))] [] a∧Mem Φ (.blk b17 (ob [.func yf_ ya_ yc_] 143)::.blk b16 (ob [.int .i64 (e.kind),.int .i64 (e.num),.string e.name,.slice p3 e.args.length c4,.slice p9 e.arms.length c10] 110)::.blk b15 (ob [.string f,q1,q2,q3,q4,q5,q6,q7,q8] 131)::K0++KY pr zz) w∧(items=pr++(flowPa pmL f (e.arms.drop i)++q0))) (e.arms.length - 0) ⟨0,pr,zz,rfl,he.pk,hm,by rw [hI25,q4p h27,List.nil_append];rfl⟩ ?_
  clear hm he
  rintro mm a w ⟨i,pr,zz,hmu,he,hm,hI59⟩ L58 hL58
  by_cases h61:i < e.arms.length
  refine go fun a he =>?_
  obtain ⟨q65,rfl,x66,hx67,cs68,hl69,ha70,hr71⟩:=h8.el hn12 h61
  obtain ⟨s72,b78,rfl,h73,h79⟩:=RArm.iff.1 hr71
  obtain ⟨p74,c75,rfl,hm76,hn77⟩:=h73.fm
  obtain ⟨p82,c83,p88,c89,rfl,hi92,h81,h87,hm84,hn85,hm90,hn91⟩:=REx.fm h79
  refine Alc fun b93 w hm a he =>?_
  refine Sto 0 fun w hm a he =>?_
  refine jF call104 (fun y95 w hG96 hm a he =>?_) (c:=ih _ (Ex.lt_arms (List.mem_of_getElem? hx67)) (K0:=(.blk b93 (ob [.string x66.con,.slice p74 x66.vars.length c75,.int .i64 (x66.body.kind),.int .i64 (x66.body.num),.string x66.body.name,.slice p82 x66.body.args.length c83,.slice p88 x66.body.arms.length c89] 174)::.blk b17 (ob [.func yf_ ya_ yc_] 143)::.blk b16 (ob [.int .i64 (e.kind),.int .i64 (e.num),.string e.name,.slice p3 e.args.length c4,.slice (some q65) e.arms.length c10] 110)::.blk b15 (ob [.string f,q1,q2,q3,q4,q5,q6,q7,q8] 131)::K0)) (q0:=_) h79 ((t4_ _ (List.mem_of_getElem? hx67)).2.2.2) (ob_ _ (List.mem_of_getElem? hx67)) (by rw [hI59,y4n hx67];simp only [List.append_assoc,List.cons_append,List.nil_append];rfl) hm)
  refine go fun a he =>?_
  replace hm:=hm.dl [0]
  refine hL58 _ _ _ (by subst hmu;omega) ⟨(i+1),((pr++vL pmL f x66.body)),(y95),rfl,he.pk,hm,?_⟩
  rw [hI59,y4n hx67];simp only [List.append_assoc,List.cons_append,List.nil_append]
  refine zI ?_
  replace hm:=hm.dl [2,1,0]
  have h_:=hI59
  rw [q4o h61,List.nil_append,hit] at h_
  rw [j4l h_];exact ⟨_,rfl,trivial,hm⟩
 by_cases h101:e.kind=4
 refine go fun a he =>?_
 refine xD (fun mm a w=>∃(i:Nat) (pr:List Flow) (zz:β),mm=e.args.length - i∧EnvR 150 [(0,.pointer (some ⟨gb,0,none⟩)),(5,.pointer (some ⟨b15,0,none⟩)),(6,.pointer (some ⟨b16,0,none⟩)),(7,.pointer (some ⟨b17,0,none⟩)),(9,.func (.func 148) (List.toArray []) (List.toArray [.pointer (some ⟨b15,0,none⟩),.pointer (some ⟨b17,0,none⟩)])),(28,.slice p3 e.args.length c4),(29,.int .i64 ((e.args.length:Nat):Int)),(30,.int .i64 ((i:Nat):Int))] [] a∧Mem Φ (.blk b17 (ob [.func yf_ ya_ yc_] 143)::.blk b16 (ob [.int .i64 (e.kind),.int .i64 (e.num),.string e.name,.slice p3 e.args.length c4,.slice p9 e.arms.length c10] 110)::.blk b15 (ob [.string f,q1,q2,q3,q4,q5,q6,q7,q8] 131)::K0++KY pr zz) w∧(items=pr++(z6n f e.name i (e.args.drop i)++(flowPs pmL f e.args++(flowPa pmL f e.arms++q0))))) (e.args.length - 0) ⟨0,p0,z0,rfl,he.pk,hm,by rw [hit0_,j1m h101];rfl⟩ ?_
 clear hm he
 rintro mm a w ⟨i,pr,zz,hmu,he,hm,hI104⟩ L103 hL103
 by_cases h106:i < e.args.length
 refine go fun a he =>?_
 obtain ⟨q110,rfl,x111,hx112,cs113,hl114,ha115,hr116⟩:=h2.el hn6 h106
 obtain ⟨p119,c120,p125,c126,rfl,hi129,h118,h124,hm121,hn122,hm127,hn128⟩:=REx.fm hr116
 refine Alc fun b130 w hm a he =>?_
 refine Sto 0 fun w hm a he =>?_
 refine Reg [1,2,1,2,1,1,0,0,1] [0,1,2,3] fun w hm a he =>?_
 have hn_:=t1_ (by omega) (by omega)
 refine yJ fun a he =>?_
 refine zZ call63 (fun w hm a he =>?_) (c:=z7w G (by omega) (by omega) hm)
 replace hm:=hm.ar [] [1,3]
 refine d_e he rfl rfl rfl (kT he rfl rfl call148 (z9l hy hf (p0:=pr) (q0:=_) (z0:=zz) (K0:=(.blk b130 (ob [.int .i64 (x111.kind),.int .i64 (x111.num),.string x111.name,.slice p119 x111.args.length c120,.slice p125 x111.arms.length c126] 110)::.blk b16 (ob [.int .i64 (e.kind),.int .i64 (e.num),.string e.name,.slice (some q110) e.args.length c4,.slice p9 e.arms.length c10] 110)::K0)) hr116 (t3_ _ (List.mem_of_getElem? hx112)) (by rw [hI104,q8n hx112];simp only [List.append_assoc,List.cons_append,List.nil_append];rfl) hm) (fun y132 w hG133 hm=>⟨fun _=>hm.sn (Fz.Le.refl _),fun a he =>?_⟩))
 refine go fun a he =>?_
 replace hm:=hm.ar [2] [2,2]
 refine hL103 _ _ _ (by subst hmu;omega) ⟨(i+1),((pr++toP f (wQ e.name i) x111)),(y132),rfl,he.pk,hm,?_⟩
 rw [hI104,q8n hx112];simp only [List.append_assoc,List.cons_append,List.nil_append]
 refine go fun a he =>?_
 exact hJ20 _ _ ⟨pr,zz,he.pk,hm,by rw [hI104,j4v h106,List.nil_append]⟩
 by_cases h136:e.kind=5
 refine go fun a he =>?_
 refine xD (fun mm a w=>∃(i:Nat) (pr:List Flow) (zz:β),mm=e.args.length - i∧EnvR 150 [(0,.pointer (some ⟨gb,0,none⟩)),(5,.pointer (some ⟨b15,0,none⟩)),(6,.pointer (some ⟨b16,0,none⟩)),(7,.pointer (some ⟨b17,0,none⟩)),(9,.func (.func 148) (List.toArray []) (List.toArray [.pointer (some ⟨b15,0,none⟩),.pointer (some ⟨b17,0,none⟩)])),(48,.slice p3 e.args.length c4),(49,.int .i64 ((e.args.length:Nat):Int)),(50,.int .i64 ((i:Nat):Int))] [] a∧Mem Φ (.blk b17 (ob [.func yf_ ya_ yc_] 143)::.blk b16 (ob [.int .i64 (e.kind),.int .i64 (e.num),.string e.name,.slice p3 e.args.length c4,.slice p9 e.arms.length c10] 110)::.blk b15 (ob [.string f,q1,q2,q3,q4,q5,q6,q7,q8] 131)::K0++KY pr zz) w∧(items=pr++(dK f e.name (((zH pmL e.name).getD []).drop i) (e.args.drop i)++(flowPs pmL f e.args++(flowPa pmL f e.arms++q0))))) (e.args.length - 0) ⟨0,p0,z0,rfl,he.pk,hm,by rw [hit0_,q4v h136];rfl⟩ ?_
 clear hm he
 rintro mm a w ⟨i,pr,zz,hmu,he,hm,hI139⟩ L138 hL138
 by_cases h141:i < e.args.length
 refine go fun a he =>?_
 obtain ⟨q145,rfl,x146,hx147,cs148,hl149,ha150,hr151⟩:=h2.el hn6 h141
 obtain ⟨p154,c155,p160,c161,rfl,hi164,h153,h159,hm156,hn157,hm162,hn163⟩:=REx.fm hr151
 refine Alc fun b165 w hm a he =>?_
 refine Sto 0 fun w hm a he =>?_
 refine go fun a he =>?_
 refine qB [1,2,1,2,1,1,1,1,0,1,2,2,1,1,1,2,0,0,1] (.q 0 (.q 1 (.q 2 (.q 3 (.q 4 (.q 5 (.q 6 (.q 7 (.q 9 (.q 10 (.q 12 (.e 8 (.q 11 (.q 13 (.q 14 (.q 15 (.e 16 (.e 17 (.q 18 (.done)))))))))))))))))))) [0,1,2,3] he hm fun w hm =>?_
 have hn_:=t1_ (by omega) (by omega)
 refine yJ fun a he =>?_
 refine go fun a he =>?_
 obtain ⟨u167,u168,u169,hv170⟩:=hv pr zz (.blk b165 (ob [.int .i64 (x146.kind),.int .i64 (x146.num),.string x146.name,.slice p154 x146.args.length c155,.slice p160 x146.arms.length c161] 110)::.blk b17 (ob [.func yf_ ya_ yc_] 143)::.blk b16 (ob [.int .i64 (e.kind),.int .i64 (e.num),.string e.name,.slice (some q145) e.args.length c4,.slice p9 e.arms.length c10] 110)::.blk b15 (ob [.string f,q1,q2,q3,q4,q5,q6,q7,q8] 131)::K0) _ hm
 refine d_e he rfl rfl rfl (vN (yS 0 he hv170 rfl rfl rfl isAgg71) ⟨fun _=>hm.sn (Fz.Le.refl _),fun a he =>?_⟩)
 rcases hf171:yA (m) e.name with _ | vf172
 exact (by have h_:=o5_ h136;rw [hpr.none hf171] at h_;simp only [Option.getD_none,List.length_nil] at h_;omega:False).elim
 obtain ⟨y173,hy174,hs175⟩:=hpr.get hf171
 obtain ⟨p176,c177,rfl,hmx178,hn179⟩:=hs175.fm
 have hpl_:e.args.length≤y173.length:=by have h_:=o5_ h136;rw [hy174] at h_;exact h_
 have hf171_:=congrArg (zF false (.slice none 0 0)) hf171
 refine Qq (fun a he =>?_) (o:=by exact fun he hs=>Ok.cast (yD runUnderlying71 runUnderlying9 zeroValue23 he hs rfl rfl hpm) (show zF false (.slice none 0 0) (yA (m) e.name)=.slice p176 y173.length c177 from hf171_))
 have hb180:i < y173.length:=by omega
 obtain ⟨q181,rfl,x182,hx183,cs184,hl185,ha186,hr187⟩:=hs175.el hn179 hb180
 obtain rfl:=id hr187
 have hz_:=hps _ _ hy174 _ (List.mem_of_getElem? hx183)
 refine zZ call64 (fun w hm a he =>?_) (c:=z5h (by omega) (by omega) hm)
 replace hm:=hm.ar [] [1,3]
 refine d_e he rfl rfl rfl (kT he rfl rfl call148 (z9l hy hf (p0:=pr) (q0:=_) (z0:=zz) (K0:=(.blk b165 (ob [.int .i64 (x146.kind),.int .i64 (x146.num),.string x146.name,.slice p154 x146.args.length c155,.slice p160 x146.arms.length c161] 110)::.blk b16 (ob [.int .i64 (e.kind),.int .i64 (e.num),.string e.name,.slice (some q145) e.args.length c4,.slice p9 e.arms.length c10] 110)::K0)) hr151 (t3_ _ (List.mem_of_getElem? hx147)) (by rw [hI139,y9w hx147 (show ((zH pmL e.name).getD [])[i]? = _ by rw [hy174];exact hx183)];simp only [List.append_assoc,List.cons_append,List.nil_append];rfl) hm) (fun y188 w hG189 hm=>⟨fun _=>hm.sn (Fz.Le.refl _),fun a he =>?_⟩))
 refine go fun a he =>?_
 replace hm:=hm.ar [2] [2,2]
 refine hL138 _ _ _ (by subst hmu;omega) ⟨(i+1),((pr++toP f (vrN e.name x182.name) x146)),(y188),rfl,he.pk,hm,?_⟩
 rw [hI139,y9w hx147 (show ((zH pmL e.name).getD [])[i]? = _ by rw [hy174];exact hx183)];simp only [List.append_assoc,List.cons_append,List.nil_append]
 refine go fun a he =>?_
 exact hJ20 _ _ ⟨pr,zz,he.pk,hm,by rw [hI139,j0g h141,List.nil_append]⟩
 by_cases h192:e.kind=6
 refine Reg [1,1,2,1,2,1,2,1,2,0,0,1] [0,1,2] fun w hm a he =>?_
 have hn_:=t1_ (by omega) (by omega)
 have hp0_:0 < e.args.length:=List.length_pos_iff.2 (o6_ h192)
 refine go fun a he =>?_
 obtain ⟨q194,rfl,x195,hx196,cs197,hl198,ha199,hr200⟩:=h2.el hn6 hp0_
 obtain ⟨p203,c204,p209,c210,rfl,hi213,h202,h208,hm205,hn206,hm211,hn212⟩:=REx.fm hr200
 refine zZ call64 (fun w hm a he =>?_) (c:=z5h (by omega) (by omega) hm)
 replace hm:=hm.pl 2
 refine d_e he rfl rfl rfl (kT he rfl rfl call148 (z9l hy hf (p0:=p0) (q0:=_) (z0:=z0) (K0:=(.blk b16 (ob [.int .i64 (e.kind),.int .i64 (e.num),.string e.name,.slice (some q194) e.args.length c4,.slice p9 e.arms.length c10] 110)::K0)) hr200 (t3_ _ (List.mem_of_getElem? hx196)) (by rw [hit0_,y4v h192,q8y hx196];simp only [List.append_assoc,List.cons_append,List.nil_append];rfl) hm) (fun y214 w hG215 hm=>⟨fun _=>hm.sn (Fz.Le.refl _),fun a he =>?_⟩))
 refine go fun a he =>?_
 replace hm:=hm.ar [] [2,2]
 exact hJ20 _ _ ⟨(p0++toP f (vrN f e.name) x195),y214,he.pk,hm,by rw [hit0_,y4v h192,q8y hx196];simp only [List.append_assoc,List.cons_append,List.nil_append]⟩
 refine go fun a he =>?_
 by_cases h217:e.kind=7
 refine go fun a he =>?_
 refine xD (fun mm a w=>∃(i:Nat) (pr:List Flow) (zz:β),mm=e.arms.length - i∧EnvR 150 [(0,.pointer (some ⟨gb,0,none⟩)),(5,.pointer (some ⟨b15,0,none⟩)),(6,.pointer (some ⟨b16,0,none⟩)),(7,.pointer (some ⟨b17,0,none⟩)),(92,.slice p9 e.arms.length c10),(93,.int .i64 ((e.arms.length:Nat):Int)),(94,.int .i64 ((i:Nat):Int))] [] a∧Mem Φ (.blk b17 (ob [.func yf_ ya_ yc_] 143)::.blk b16 (ob [.int .i64 (e.kind),.int .i64 (e.num),.string e.name,.slice p3 e.args.length c4,.slice p9 e.arms.length c10] 110)::.blk b15 (ob [.string f,q1,q2,q3,q4,q5,q6,q7,q8] 131)::K0++KY pr zz) w∧(items=pr++(z1n f (e.arms.drop i)++(flowPs pmL f e.args++(flowPa pmL f e.arms++q0))))) (e.arms.length - 0) ⟨0,p0,z0,rfl,he.pk,hm,by rw [hit0_,q4w h217];rfl⟩ ?_
 clear hm he
 rintro mm a w ⟨i,pr,zz,hmu,he,hm,hI220⟩ L219 hL219
 by_cases h222:i < e.arms.length
 refine go fun a he =>?_
 obtain ⟨q226,rfl,x227,hx228,cs229,hl230,ha231,hr232⟩:=h8.el hn12 h222
 obtain ⟨s233,b239,rfl,h234,h240⟩:=RArm.iff.1 hr232
 obtain ⟨p235,c236,rfl,hm237,hn238⟩:=h234.fm
 obtain ⟨p243,c244,p249,c250,rfl,hi253,h242,h248,hm245,hn246,hm251,hn252⟩:=REx.fm h240
 refine Alc fun b254 w hm a he =>?_
 refine Sto 0 fun w hm a he =>?_
 have ha_:=t4_ _ (List.mem_of_getElem? hx228)
 refine go fun a he =>?_
 refine xD (fun mm a w=>∃(k:Nat) (pr:List Flow) (zz:β),mm=x227.vars.length - k∧EnvR 150 [(0,.pointer (some ⟨gb,0,none⟩)),(5,.pointer (some ⟨b15,0,none⟩)),(6,.pointer (some ⟨b16,0,none⟩)),(7,.pointer (some ⟨b17,0,none⟩)),(15,.pointer (some ⟨b254,0,none⟩)),(92,.slice (some q226) e.arms.length c10),(93,.int .i64 ((e.arms.length:Nat):Int)),(94,.int .i64 ((i:Nat):Int)),(99,.slice p235 x227.vars.length c236),(100,.int .i64 ((x227.vars.length:Nat):Int)),(101,.int .i64 ((k:Nat):Int))] [] a∧Mem Φ (.blk b254 (ob [.string x227.con,.slice p235 x227.vars.length c236,.int .i64 (x227.body.kind),.int .i64 (x227.body.num),.string x227.body.name,.slice p243 x227.body.args.length c244,.slice p249 x227.body.arms.length c250] 174)::.blk b17 (ob [.func yf_ ya_ yc_] 143)::.blk b16 (ob [.int .i64 (e.kind),.int .i64 (e.num),.string e.name,.slice p3 e.args.length c4,.slice (some q226) e.arms.length c10] 110)::.blk b15 (ob [.string f,q1,q2,q3,q4,q5,q6,q7,q8] 131)::K0++KY pr zz) w∧(items=pr++(z7r f x227.con k (x227.vars.drop k)++(z1n f (e.arms.drop (i+1))++(flowPs pmL f e.args++(flowPa pmL f e.arms++q0)))))) (x227.vars.length - 0) ⟨0,pr,zz,rfl,he.pk,hm,by rw [hI220,armF_at hx228];simp only [List.append_assoc,List.cons_append,List.nil_append];rfl⟩ ?_
 clear hm he
 rintro mm a w ⟨k,pr,zz,hmu,he,hm,hI257⟩ L256 hL256
 by_cases h259:k < x227.vars.length
 refine go fun a he =>?_
 obtain ⟨q263,rfl,x264,hx265,cs266,hl267,ha268,hr269⟩:=h234.el hn238 h259
 obtain rfl:cs266=[.string x264]:=hr269
 refine go fun a he =>?_
 refine qB [2,1,2,1,1,0,1,2,1,0,1,0,1] (.q 0 (.q 1 (.q 2 (.q 3 (.q 4 (.q 6 (.q 7 (.q 8 (.e 5 (.e 9 (.q 10 (.e 11 (.q 12 (.done)))))))))))))) [0,1,2,3] he hm fun w hm =>?_
 have hz_:=ha_.2.2.1 _ (List.mem_of_getElem? hx265)
 refine yJ fun a he =>?_
 refine zZ call63 (fun w hm a he =>?_) (c:=z7w G (by omega) (by omega) hm)
 refine zZ call64 (fun w hm a he =>?_) (c:=z5h (by omega) (by omega) hm)
 refine yJ fun a he =>?_
 refine d_fire he rfl rfl rfl (vH he rfl rfl (hy.go pr (wQ x227.con k,vrN f x264) _ zz (.blk b254 (ob [.string x227.con,.slice (some q263) x227.vars.length c236,.int .i64 (x227.body.kind),.int .i64 (x227.body.num),.string x227.body.name,.slice p243 x227.body.args.length c244,.slice p249 x227.body.arms.length c250] 174)::.blk b17 (ob [.func yf_ ya_ yc_] 143)::.blk b16 (ob [.int .i64 (e.kind),.int .i64 (e.num),.string e.name,.slice p3 e.args.length c4,.slice (some q226) e.arms.length c10] 110)::.blk b15 (ob [.string f,q1,q2,q3,q4,q5,q6,q7,q8] 131)::K0) w (by rw [hI257,q9v hx265];simp only [List.append_assoc,List.cons_append,List.nil_append];rfl) hm) fun w hJ_=>⟨fun _=>hJ_.elim fun z_ hm=>hm.sn (Fz.Le.refl _),fun a he =>?_⟩)
 obtain ⟨z271,hm⟩:=hJ_
 replace hm:=hm.nf
 refine go fun a he =>?_
 refine hL256 _ _ _ (by subst hmu;omega) ⟨(k+1),((pr++[(wQ x227.con k,vrN f x264)])),(z271),rfl,he.pk,hm,?_⟩
 rw [hI257,q9v hx265];simp only [List.append_assoc,List.cons_append,List.nil_append]
 refine go fun a he =>?_
 replace hm:=hm.dl [0]
 refine hL219 _ _ _ (by subst hmu;omega) ⟨(i+1),(pr),(zz),rfl,he.pk,hm,?_⟩
 have h_:=hI257
 rw [x1k h259,List.nil_append] at h_
 rw [h_]
 refine go fun a he =>?_
 exact hJ20 _ _ ⟨pr,zz,he.pk,hm,by rw [hI220,j4n h222,List.nil_append]⟩
 refine go fun a he =>?_
 exact hJ20 _ _ ⟨p0,z0,he.pk,hm,by rw [hit0_,q4x (by assumption) (by assumption) (by assumption) (by assumption),List.nil_append]⟩
theorem j5r {β:Type} {Φ:Fz} {y:Value} {items:List Flow} {KY:List Flow→β→List Res} (hy:Takes prog Φ y flV items KY) {gb pmb:Nat} {s1 s2 s3 s4 nd:Value} (hv:∀pre z K0 w,Mem Φ (K0++KY pre z) w→∃u v x,Sees Φ [.blk gb (ob [s1,s2,s3,s4,nd,u,.map (some pmb),v,x] 75)] w) {m:List (Bs×Value)} {pmL:Pars} (hpm:MapAt Φ pmb m) (hpr:MapRel (fun v x=>SliceOf RParam Φ 2 v x) m pmL) (hps:∀n ps,zH pmL n=some ps→∀p∈ps,p.name.size≤1000) (G:Glob Φ) {f:Bs} {q1 q2 q3 q4 q5 q6 q7 q8:Value} (hf:f.size≤1000) {e:Ex} {K0:List Res} {w:World} {d0:List Value} {p0 q0:List Flow} {z0:β} (re:REx Φ d0 e) (ht:pU e) (hok:mE pmL e) (hit:items=p0++vL pmL f e++q0) (hm:Mem Φ (K0++KY p0 z0) w) :
  Calls prog 104 (List.toArray [.pointer (some ⟨gb,0,none⟩),.agg (List.toArray [.string f,q1,q2,q3,q4,q5,q6,q7,q8]),.agg d0.toArray,y]) w (fun ee w'=>∃z':β,ee=.returned (.bool true)∧True∧Mem Φ (K0++KY (p0++vL pmL f e) z') w'):=by
 have:∀(n:Nat) (e:Ex),e.sz < n→∀{K0:List Res} {w:World} {d0:List Value} {p0 q0:List Flow} {z0:β},REx Φ d0 e→pU e→mE pmL e→items=p0++vL pmL f e++q0→Mem Φ (K0++KY p0 z0) w →
   Calls prog 104 (List.toArray [.pointer (some ⟨gb,0,none⟩),.agg (List.toArray [.string f,q1,q2,q3,q4,q5,q6,q7,q8]),.agg d0.toArray,y]) w (fun ee w'=>∃z':β,ee=.returned (.bool true)∧True∧Mem Φ (K0++KY (p0++vL pmL f e) z') w'):=by
  intro n
  induction n with
  | zero=>intro e h;omega
  | succ n ih=>intro e h K0 w d0 p0 q0 z0 re ht hok hit hm;exact j1g hy hv hpm hpr hps G hf (fun x hx K0 w d0 p0 q0 z0 r t o h1 h2=>ih x (by omega) r t o h1 h2) re ht hok hit hm
 exact this _ e (Nat.lt_succ_self _) re ht hok hit hm
end Go.Sw

namespace Go.Sw
open Go.Proofs.Tryz
open Go.Proofs
set_option maxRecDepth 20000
set_option maxHeartbeats 4000000
theorem z9s {i:Param} {x:Bs} {l:List Bs} {k:Nat} {t:Bs} (h:l[k]? = some t):dP i x k (l.drop k)=(if t=i.type then [(inN i.name,wQ x k)] else [])++dP i x (k+1) (l.drop (k+1)):=by rw [zA h];rfl
theorem j1q {i:Param} {x:Bs} {l:List Bs} {k:Nat} (h:¬k < l.length):dP i x k (l.drop k)=[]:=by rw [zE h];rfl
theorem j8f {i:Param} {d:Data} (h:¬d.name=i.type):z5v i d=[]:=if_neg h
theorem j1p {i:Param} {d:Data} (h:d.name=i.type):z5v i d=(d.cons.drop 0).flatMap fun x=>dP i x.name 0 x.fields:=if_pos h
theorem y9j (c:Core):xJ c=[]++((c.inputs.drop 0).flatMap (y7s c)++c.funs.flatMap (cQ (wZ c))):=rfl
theorem all_ok' {Φ:Fz} {K:List Res} {w:World} {gb:Nat} (hm:Mem Φ K w) :
  Calls prog 66 (List.toArray [.pointer (some ⟨gb,0,none⟩)]) w (fun ee w'=>∃b:Nat,ee=.returned (.func (.func 102) (List.toArray []) (List.toArray [.pointer (some ⟨b,0,none⟩)]))∧True∧Mem Φ (.blk b (ob [.pointer (some ⟨gb,0,none⟩)] 66)::K) w'):=by
 refine zL func66 ntmps66 fun Q hQ a he =>?_
 refine Bx fun b2 w hm a he =>?_
 refine zI ?_
 exact ⟨_,rfl,trivial,hm⟩
theorem all1_ok {β:Type} {Φ:Fz} {w:World} {c:Core} {d0:List Value} {y:Value} {KY:List Flow→β→List Res} {z0:β} {gb pmb b:Nat} {nd:Value} {m:List (Bs×Value)} (hy:Takes prog Φ y flV (xJ c) KY) (hv:∀pre z K0 w,Mem Φ (K0++KY pre z) w→∃u v x,Sees Φ [.blk gb (ob (d0++[nd,u,.map (some pmb),v,x]) 75)] w) (rpc:RCore Φ d0 c) (hpm:MapAt Φ pmb m) (hpr:MapRel (fun v x=>SliceOf RParam Φ 2 v x) m (wZ c)) (hps:∀n ps,zH (wZ c) n=some ps→∀p∈ps,p.name.size≤1000) (hT:TidyC c) (hF:∀f∈c.funs,pU f.body∧mE (wZ c) f.body) (G:Glob Φ) (hm:Mem Φ (.blk b (ob [.pointer (some ⟨gb,0,none⟩)] 66)::KY [] z0) w) :
  Calls prog 102 (List.toArray [y,.pointer (some ⟨b,0,none⟩)]) w (fun ee w'=>∃z':β,ee=.returned (.tuple #[])∧True∧Mem Φ (.blk b (ob [.pointer (some ⟨gb,0,none⟩)] 66)::KY (xJ c) z') w'):=by
 obtain ⟨yf_,ya_,yc_,hyv_⟩:=hy.fn
 subst hyv_
 obtain ⟨p3,c4,p9,c10,p15,c16,p21,c22,rfl,h2,h8,h14,h20,hm5,hn6,hm11,hn12,hm17,hn18,hm23,hn24⟩:=RCore.fm rpc
 refine z4b func102 rfl ntmps102 rfl (fun Q hQ a he =>?_)
 refine Bx fun b26 w hm a he =>?_
 refine go fun a he =>?_
 obtain ⟨u29,u30,u31,hv32⟩:=hv [] z0 (.blk b26 (ob [.func yf_ ya_ yc_] 143)::.blk b (ob [.pointer (some ⟨gb,0,none⟩)] 66)::[]) _ hm
 refine jG he (yS 0 he hv32 rfl rfl rfl isAgg23) rfl fun a he =>?_
 refine go fun a he =>?_
 refine xD (fun mm a w=>∃(i:Nat) (pr:List Flow) (zz:β),mm=c.inputs.length - i∧EnvR 113 [(1,.pointer (some ⟨b,0,none⟩)),(2,.pointer (some ⟨b26,0,none⟩)),(19,.slice p9 c.inputs.length c10),(20,.int .i64 ((c.inputs.length:Nat):Int)),(21,.int .i64 ((i:Nat):Int))] [] a∧Mem Φ (.blk b26 (ob [.func yf_ ya_ yc_] 143)::.blk b (ob [.pointer (some ⟨gb,0,none⟩)] 66)::KY pr zz) w∧(xJ c=pr++((c.inputs.drop i).flatMap (y7s c)++c.funs.flatMap (cQ (wZ c))))) (c.inputs.length - 0) ⟨0,[],z0,rfl,he.pk,hm,y9j c⟩ ?_
 clear hm he
 rintro mm a w ⟨i,pr,zz,hmu,he,hm,hI34⟩ L33 hL33
 by_cases h36:i < c.inputs.length
 refine go fun a he =>?_
 obtain ⟨q40,rfl,x41,hx42,cs43,hl44,ha45,hr46⟩:=h8.el hn12 h36
 obtain rfl:=id hr46
 refine Alc fun b47 w hm a he =>?_
 refine Sto 0 fun w hm a he =>?_
 refine go fun a he =>?_
 obtain ⟨u49,u50,u51,hv52⟩:=hv pr zz (.blk b47 (ob [.string x41.name,.string x41.type] 36)::.blk b26 (ob [.func yf_ ya_ yc_] 143)::.blk b (ob [.pointer (some ⟨gb,0,none⟩)] 66)::[]) _ hm
 refine jG he (yS 0 he hv52 rfl rfl rfl isAgg22) rfl fun a he =>?_
 refine go fun a he =>?_
 refine xD (fun mm a w=>∃(k:Nat) (pr:List Flow) (zz:β),mm=c.datas.length - k∧EnvR 113 [(1,.pointer (some ⟨b,0,none⟩)),(2,.pointer (some ⟨b26,0,none⟩)),(4,.pointer (some ⟨b47,0,none⟩)),(19,.slice (some q40) c.inputs.length c10),(20,.int .i64 ((c.inputs.length:Nat):Int)),(21,.int .i64 ((i:Nat):Int)),(29,.slice p3 c.datas.length c4),(30,.int .i64 ((c.datas.length:Nat):Int)),(31,.int .i64 ((k:Nat):Int))] [] a∧Mem Φ (.blk b47 (ob [.string x41.name,.string x41.type] 36)::.blk b26 (ob [.func yf_ ya_ yc_] 143)::.blk b (ob [.pointer (some ⟨gb,0,none⟩)] 66)::KY pr zz) w∧(xJ c=pr++((c.datas.drop k).flatMap (z5v x41)++((c.inputs.drop (i+1)).flatMap (y7s c)++c.funs.flatMap (cQ (wZ c)))))) (c.datas.length - 0) ⟨0,pr,zz,rfl,he.pk,hm,by rw [hI34,zA hx42,List.flatMap_cons,List.append_assoc];rfl⟩ ?_
 clear hm he
 rintro mm a w ⟨k,pr,zz,hmu,he,hm,hI54⟩ L53 hL53
 by_cases h56:k < c.datas.length
 refine go fun a he =>?_
 obtain ⟨q60,rfl,x61,hx62,cs63,hl64,ha65,hr66⟩:=h2.el hn6 h56
 obtain ⟨s67,rfl,h68⟩:=id hr66
 obtain ⟨p69,c70,rfl,hm71,hn72⟩:=h68.fm
 refine Alc fun b73 w hm a he =>?_
 refine Sto 0 fun w hm a he =>?_
 by_cases h76:x61.name=x41.type
 refine go fun a he =>?_
 refine xD (fun mm a w=>∃(j:Nat) (pr:List Flow) (zz:β),mm=x61.cons.length - j∧EnvR 113 [(1,.pointer (some ⟨b,0,none⟩)),(2,.pointer (some ⟨b26,0,none⟩)),(4,.pointer (some ⟨b47,0,none⟩)),(19,.slice (some q40) c.inputs.length c10),(20,.int .i64 ((c.inputs.length:Nat):Int)),(21,.int .i64 ((i:Nat):Int)),(29,.slice (some q60) c.datas.length c4),(30,.int .i64 ((c.datas.length:Nat):Int)),(31,.int .i64 ((k:Nat):Int)),(41,.slice p69 x61.cons.length c70),(42,.int .i64 ((x61.cons.length:Nat):Int)),(43,.int .i64 ((j:Nat):Int))] [] a∧Mem Φ (.blk b73 (ob [.string x61.name,.slice p69 x61.cons.length c70] 126)::.blk b47 (ob [.string x41.name,.string x41.type] 36)::.blk b26 (ob [.func yf_ ya_ yc_] 143)::.blk b (ob [.pointer (some ⟨gb,0,none⟩)] 66)::KY pr zz) w∧(xJ c=pr++((x61.cons.drop j).flatMap (fun x=>dP x41 x.name 0 x.fields)++((c.datas.drop (k+1)).flatMap (z5v x41)++((c.inputs.drop (i+1)).flatMap (y7s c)++c.funs.flatMap (cQ (wZ c))))))) (x61.cons.length - 0) ⟨0,pr,zz,rfl,he.pk,hm,by rw [hI54,zA hx62,List.flatMap_cons,j1p h76,List.append_assoc]⟩ ?_
 clear hm he
 rintro mm a w ⟨j,pr,zz,hmu,he,hm,hI79⟩ L78 hL78
 by_cases h81:j < x61.cons.length
 refine go fun a he =>?_
 obtain ⟨q85,rfl,x86,hx87,cs88,hl89,ha90,hr91⟩:=h68.el hn72 h81
 obtain ⟨s92,rfl,h93⟩:=id hr91
 obtain ⟨p94,c95,rfl,hm96,hn97⟩:=h93.fm
 refine Alc fun b98 w hm a he =>?_
 refine Sto 0 fun w hm a he =>?_
 refine go fun a he =>?_
 refine xD (fun mm a w=>∃(l:Nat) (pr:List Flow) (zz:β),mm=x86.fields.length - l∧EnvR 113 [(1,.pointer (some ⟨b,0,none⟩)),(2,.pointer (some ⟨b26,0,none⟩)),(4,.pointer (some ⟨b47,0,none⟩)),(8,.pointer (some ⟨b98,0,none⟩)),(19,.slice (some q40) c.inputs.length c10),(20,.int .i64 ((c.inputs.length:Nat):Int)),(21,.int .i64 ((i:Nat):Int)),(29,.slice (some q60) c.datas.length c4),(30,.int .i64 ((c.datas.length:Nat):Int)),(31,.int .i64 ((k:Nat):Int)),(41,.slice (some q85) x61.cons.length c70),(42,.int .i64 ((x61.cons.length:Nat):Int)),(43,.int .i64 ((j:Nat):Int)),(48,.slice p94 x86.fields.length c95),(49,.int .i64 ((x86.fields.length:Nat):Int)),(50,.int .i64 ((l:Nat):Int))] [] a∧Mem Φ (.blk b98 (ob [.string x86.name,.slice p94 x86.fields.length c95] 128)::.blk b73 (ob [.string x61.name,.slice (some q85) x61.cons.length c70] 126)::.blk b47 (ob [.string x41.name,.string x41.type] 36)::.blk b26 (ob [.func yf_ ya_ yc_] 143)::.blk b (ob [.pointer (some ⟨gb,0,none⟩)] 66)::KY pr zz) w∧(xJ c=pr++(dP x41 x86.name l (x86.fields.drop l)++((x61.cons.drop (j+1)).flatMap (fun x=>dP x41 x.name 0 x.fields)++((c.datas.drop (k+1)).flatMap (z5v x41)++((c.inputs.drop (i+1)).flatMap (y7s c)++c.funs.flatMap (cQ (wZ c)))))))) (x86.fields.length - 0) ⟨0,pr,zz,rfl,he.pk,hm,by rw [hI79,zA hx87,List.flatMap_cons,List.append_assoc];rfl⟩ ?_
 clear hm he
 rintro mm a w ⟨l,pr,zz,hmu,he,hm,hI101⟩ L100 hL100
 by_cases h103:l < x86.fields.length
 refine go fun a he =>?_
 obtain ⟨q107,rfl,x108,hx109,cs110,hl111,ha112,hr113⟩:=h93.el hn97 h103
 obtain rfl:cs110=[.string x108]:=hr113
 refine go fun a he =>?_
 refine qB [1,1,2,1,1,2,1,2,1,0,1,2,1,1,0,1,0,1,1] (.q 0 (.q 1 (.q 2 (.q 3 (.q 4 (.q 5 (.q 6 (.q 7 (.q 8 (.q 10 (.q 11 (.q 12 (.q 13 (.e 9 (.e 14 (.q 15 (.e 16 (.q 17 (.q 18 (.done)))))))))))))))))))) [0,1,2,3,4] he hm fun w hm =>?_
 have hz_:=hT.con _ (List.mem_of_getElem? hx62) _ (List.mem_of_getElem? hx87)
 have hi_:=hT.inp _ (List.mem_of_getElem? hx42)
 by_cases h115:x108=x41.type
 refine yJ fun a he =>?_
 refine yJ fun a he =>?_
 refine zZ call40 (fun w hm a he =>?_) (c:=z9t (by omega) hm)
 refine zZ call63 (fun w hm a he =>?_) (c:=z7w G (by omega) (by omega) hm)
 refine yJ fun a he =>?_
 refine d_fireg he rfl rfl rfl rfl rfl (vH he rfl rfl (hy.go pr (inN x41.name,wQ x86.name l) _ zz (.blk b98 (ob [.string x86.name,.slice (some q107) x86.fields.length c95] 128)::.blk b73 (ob [.string x61.name,.slice (some q85) x61.cons.length c70] 126)::.blk b47 (ob [.string x41.name,.string x41.type] 36)::.blk b26 (ob [.func yf_ ya_ yc_] 143)::.blk b (ob [.pointer (some ⟨gb,0,none⟩)] 66)::[]) w (by rw [hI101,z9s hx109,if_pos h115];simp only [List.append_assoc,List.cons_append,List.nil_append];rfl) hm) fun w hJ_=>⟨fun _=>hJ_.elim fun z_ hm=>hm.sn (Fz.Le.refl _),fun a he =>?_⟩)
 obtain ⟨z116,hm⟩:=hJ_
 replace hm:=hm.nf
 refine go fun a he =>?_
 refine hL100 _ _ _ (by subst hmu;omega) ⟨(l+1),((pr++[(inN x41.name,wQ x86.name l)])),(z116),rfl,he.pk,hm,?_⟩
 rw [hI101,z9s hx109,if_pos h115];simp only [List.append_assoc,List.cons_append,List.nil_append]
 refine go fun a he =>?_
 refine hL100 _ _ _ (by subst hmu;omega) ⟨(l+1),(pr),(zz),rfl,he.pk,hm,?_⟩
 rw [hI101,z9s hx109,if_neg h115];simp only [List.append_assoc,List.cons_append,List.nil_append]
 refine go fun a he =>?_
 replace hm:=hm.dl [0]
 refine hL78 _ _ _ (by subst hmu;omega) ⟨(j+1),(pr),(zz),rfl,he.pk,hm,?_⟩
 have h_:=hI101
 rw [j1q h103,List.nil_append] at h_
 rw [h_]
 refine go fun a he =>?_
 replace hm:=hm.dl [0]
 refine hL53 _ _ _ (by subst hmu;omega) ⟨(k+1),(pr),(zz),rfl,he.pk,hm,?_⟩
 have h_:=hI79
 rw [zE h81,List.flatMap_nil,List.nil_append] at h_
 rw [h_]
 refine go fun a he =>?_
 replace hm:=hm.dl [0]
 refine hL53 _ _ _ (by subst hmu;omega) ⟨(k+1),(pr),(zz),rfl,he.pk,hm,?_⟩
 rw [hI54,zA hx62,List.flatMap_cons,j8f h76,List.nil_append]
 refine go fun a he =>?_
 replace hm:=hm.dl [0]
 refine hL33 _ _ _ (by subst hmu;omega) ⟨(i+1),(pr),(zz),rfl,he.pk,hm,?_⟩
 have h_:=hI54
 rw [zE h56,List.flatMap_nil,List.nil_append] at h_
 rw [h_]
 refine go fun a he =>?_
 obtain ⟨u122,u123,u124,hv125⟩:=hv pr zz (.blk b26 (ob [.func yf_ ya_ yc_] 143)::.blk b (ob [.pointer (some ⟨gb,0,none⟩)] 66)::[]) _ hm
 refine jG he (yS 0 he hv125 rfl rfl rfl isAgg24) rfl fun a he =>?_
 refine go fun a he =>?_
 refine xD (fun mm a w=>∃(i:Nat) (pr:List Flow) (zz:β) (ds:List Nat),mm=c.funs.length - i∧EnvR 113 [(1,.pointer (some ⟨b,0,none⟩)),(2,.pointer (some ⟨b26,0,none⟩)),(82,.slice p15 c.funs.length c16),(83,.int .i64 ((c.funs.length:Nat):Int)),(84,.int .i64 ((i:Nat):Int))] (z0e ds) a∧Mem Φ (.blk b26 (ob [.func yf_ ya_ yc_] 143)::.blk b (ob [.pointer (some ⟨gb,0,none⟩)] 66)::xX ds++KY pr zz) w∧(xJ c=pr++(c.funs.drop i).flatMap (cQ (wZ c)))) (c.funs.length - 0) ⟨0,pr,zz,[],rfl,he.pk,hm,by rw [hI34,zE h36,List.flatMap_nil,List.nil_append];rfl⟩ ?_
 clear hm he
 rintro mm a w ⟨i,pr,zz,ds,hmu,he,hm,hI127⟩ L126 hL126
 by_cases h129:i < c.funs.length
 refine go fun a he =>?_
 obtain ⟨q133,rfl,x134,hx135,cs136,hl137,ha138,hr139⟩:=h14.el hn18 h129
 obtain ⟨s140,b146,rfl,h141,h147⟩:=id hr139
 obtain ⟨p142,c143,rfl,hm144,hn145⟩:=h141.fm
 obtain ⟨p150,c151,p156,c157,rfl,hi160,h149,h155,hm152,hn153,hm158,hn159⟩:=REx.fm h147
 refine Alc fun b161 w hm a he =>?_
 refine Sto 0 fun w hm a he =>?_
 have hf_:=hT.fn _ (List.mem_of_getElem? hx135)
 have hg_:=hF _ (List.mem_of_getElem? hx135)
 refine yJ fun a he =>?_
 refine kK fun a he =>?_
 refine Alc fun b163 w hm a he =>?_
 refine Sto 0 fun w hm a he =>?_
 refine jF call103 (fun y166 w hG167 hm a he =>?_) (c:=q8u h147 hm)
 refine go fun a he =>?_
 refine z5j (p:=97) (sQ x134.name x134.body) (fun x=>.string x) [.blk y166.1 (ob [.string x134.name,.string x134.name,.slice p142 x134.params.length c143,.string x134.result,.int .i64 (x134.body.kind),.int .i64 (x134.body.num),.string x134.body.name,.slice p150 x134.body.args.length c151,.slice p156 x134.body.arms.length c157] 131),.blk y166.2 (ob [.int .i64 (x134.body.kind),.int .i64 (x134.body.num),.string x134.body.name,.slice p150 x134.body.args.length c151,.slice p156 x134.body.arms.length c157] 110)] (fun pre z=>.blk b163 (ob [.string x134.name,.string x134.name,.slice p142 x134.params.length c143,.string x134.result,.int .i64 (x134.body.kind),.int .i64 (x134.body.num),.string x134.body.name,.slice p150 x134.body.args.length c151,.slice p156 x134.body.arms.length c157] 131)::.blk b161 (ob [.string x134.name,.slice p142 x134.params.length c143,.string x134.result,.int .i64 (x134.body.kind),.int .i64 (x134.body.num),.string x134.body.name,.slice p150 x134.body.args.length c151,.slice p156 x134.body.arms.length c157] 112)::.blk b26 (ob [.func yf_ ya_ yc_] 143)::.blk b (ob [.pointer (some ⟨gb,0,none⟩)] 66)::xX ds++KY (pr++pre.map (fun s=>(s,x134.name))) z) zz he (by simpa using hm.nf) rfl call145 rfl (fun pre x post z l_ o1_ o2_ K1_ a w hit he hm =>?_) (fun y_ KY_ w hy_ hm =>?_) (fun Dk z a w he hm =>?_)
 replace hm:=hm.nf
 replace hm:Mem Φ (.blk l_ o1_::.blk b163 (ob [.string x134.name,.string x134.name,.slice p142 x134.params.length c143,.string x134.result,.int .i64 (x134.body.kind),.int .i64 (x134.body.num),.string x134.body.name,.slice p150 x134.body.args.length c151,.slice p156 x134.body.arms.length c157] 131)::.blk b161 (ob [.string x134.name,.slice p142 x134.params.length c143,.string x134.result,.int .i64 (x134.body.kind),.int .i64 (x134.body.num),.string x134.body.name,.slice p150 x134.body.args.length c151,.slice p156 x134.body.arms.length c157] 112)::.blk b26 (ob [.func yf_ ya_ yc_] 143)::.blk b (ob [.pointer (some ⟨gb,0,none⟩)] 66)::(K1_++xX ds)++KY (pr++pre.map (fun s=>(s,x134.name))) z) w:=Mem.rot (A:=[.blk l_ o1_,.blk b163 (ob [.string x134.name,.string x134.name,.slice p142 x134.params.length c143,.string x134.result,.int .i64 (x134.body.kind),.int .i64 (x134.body.num),.string x134.body.name,.slice p150 x134.body.args.length c151,.slice p156 x134.body.arms.length c157] 131),.blk b161 (ob [.string x134.name,.slice p142 x134.params.length c143,.string x134.result,.int .i64 (x134.body.kind),.int .i64 (x134.body.num),.string x134.body.name,.slice p150 x134.body.args.length c151,.slice p156 x134.body.arms.length c157] 112),.blk b26 (ob [.func yf_ ya_ yc_] 143),.blk b (ob [.pointer (some ⟨gb,0,none⟩)] 66)]) hm
 refine regI ?_
 refine yO he (by intro c h;cases h) (vJ he rfl) rfl fun a he =>?_
 refine pN ?_
 refine ⟨_,hm,fun w hm =>?_⟩
 replace hm:=hm.nf
 refine blkI ?_
 refine sqI fun L168 hL168 =>?_
 refine regI ?_
 refine yO he (by intro c h;cases h) (yS 3 he hm.toSees rfl rfl rfl isAgg143) rfl fun a he =>
   yO he (by intro c h;cases h) (qQ he rfl) rfl fun a he =>
   yO he (by intro c h;cases h) (qP he rfl q0y rfl) rfl fun a he =>
   yO he (by intro c h;cases h) (yS 2 he hm.toSees rfl rfl rfl isAgg9) rfl fun a he =>
   yO he (by intro c h;cases h) (aY (vs:=[(0,.string x),(1,.string x134.name)]) (cs:=[.string x,.string x134.name]) he rfl (by kernel_rfl)) rfl fun a he =>?_
 refine tH he rfl rfl rfl (by intro c h;cases h) (vH he rfl rfl (hy.go (pr++pre.map (fun s=>(s,x134.name))) (x,x134.name) _ z (.blk l_ o2_::.blk b163 (ob [.string x134.name,.string x134.name,.slice p142 x134.params.length c143,.string x134.result,.int .i64 (x134.body.kind),.int .i64 (x134.body.num),.string x134.body.name,.slice p150 x134.body.args.length c151,.slice p156 x134.body.arms.length c157] 131)::.blk b161 (ob [.string x134.name,.slice p142 x134.params.length c143,.string x134.result,.int .i64 (x134.body.kind),.int .i64 (x134.body.num),.string x134.body.name,.slice p150 x134.body.args.length c151,.slice p156 x134.body.arms.length c157] 112)::.blk b26 (ob [.func yf_ ya_ yc_] 143)::.blk b (ob [.pointer (some ⟨gb,0,none⟩)] 66)::(K1_++xX ds)) w (by rw [hI127,zA hx135,List.flatMap_cons,cQ,toP,hit];simp only [List.map_append,List.map_cons,List.append_assoc,List.cons_append];rfl) hm) fun w hJ_ a he =>?_)
 obtain ⟨z169,hm⟩:=hJ_
 replace hm:=hm.nf
 refine yO he (by intro c h;cases h) (uC he rfl) rfl fun a he =>?_
 refine pN ?_
 refine hL168 _ _ ?_
 refine if_fI he rfl ?_
 refine skipI ?_
 refine ⟨rfl,z169,?_⟩
 rw [List.map_append,List.map_cons,List.map_nil,← List.append_assoc]
 exact Mem.unrot (A:=[.blk l_ o2_,.blk b163 (ob [.string x134.name,.string x134.name,.slice p142 x134.params.length c143,.string x134.result,.int .i64 (x134.body.kind),.int .i64 (x134.body.num),.string x134.body.name,.slice p150 x134.body.args.length c151,.slice p156 x134.body.arms.length c157] 131),.blk b161 (ob [.string x134.name,.slice p142 x134.params.length c143,.string x134.result,.int .i64 (x134.body.kind),.int .i64 (x134.body.num),.string x134.body.name,.slice p150 x134.body.args.length c151,.slice p156 x134.body.arms.length c157] 112),.blk b26 (ob [.func yf_ ya_ yc_] 143),.blk b (ob [.pointer (some ⟨gb,0,none⟩)] 66)]) hm
 exact (q1c hf_.1 (by assumption) hg_.1 hy_ hm).mono fun e_ w h=>let ⟨z,h1,_,h2⟩:=h;⟨_,z,h1,h2⟩
 replace hm:Mem Φ (.blk y166.1 (ob [.string x134.name,.string x134.name,.slice p142 x134.params.length c143,.string x134.result,.int .i64 (x134.body.kind),.int .i64 (x134.body.num),.string x134.body.name,.slice p150 x134.body.args.length c151,.slice p156 x134.body.arms.length c157] 131)::.blk y166.2 (ob [.int .i64 (x134.body.kind),.int .i64 (x134.body.num),.string x134.body.name,.slice p150 x134.body.args.length c151,.slice p156 x134.body.arms.length c157] 110)::.blk b163 (ob [.string x134.name,.string x134.name,.slice p142 x134.params.length c143,.string x134.result,.int .i64 (x134.body.kind),.int .i64 (x134.body.num),.string x134.body.name,.slice p150 x134.body.args.length c151,.slice p156 x134.body.arms.length c157] 131)::.blk b161 (ob [.string x134.name,.slice p142 x134.params.length c143,.string x134.result,.int .i64 (x134.body.kind),.int .i64 (x134.body.num),.string x134.body.name,.slice p150 x134.body.args.length c151,.slice p156 x134.body.arms.length c157] 112)::.blk b26 (ob [.func yf_ ya_ yc_] 143)::.blk b (ob [.pointer (some ⟨gb,0,none⟩)] 66)::xX (Dk::ds)++KY (pr++(sQ x134.name x134.body).map (fun s=>(s,x134.name))) z) w:=Mem.mid (A:=[.blk Dk (.deferred (some []))]) (B:=[.blk y166.1 (ob [.string x134.name,.string x134.name,.slice p142 x134.params.length c143,.string x134.result,.int .i64 (x134.body.kind),.int .i64 (x134.body.num),.string x134.body.name,.slice p150 x134.body.args.length c151,.slice p156 x134.body.arms.length c157] 131),.blk y166.2 (ob [.int .i64 (x134.body.kind),.int .i64 (x134.body.num),.string x134.body.name,.slice p150 x134.body.args.length c151,.slice p156 x134.body.arms.length c157] 110),.blk b163 (ob [.string x134.name,.string x134.name,.slice p142 x134.params.length c143,.string x134.result,.int .i64 (x134.body.kind),.int .i64 (x134.body.num),.string x134.body.name,.slice p150 x134.body.args.length c151,.slice p156 x134.body.arms.length c157] 131),.blk b161 (ob [.string x134.name,.slice p142 x134.params.length c143,.string x134.result,.int .i64 (x134.body.kind),.int .i64 (x134.body.num),.string x134.body.name,.slice p150 x134.body.args.length c151,.slice p156 x134.body.arms.length c157] 112),.blk b26 (ob [.func yf_ ya_ yc_] 143),.blk b (ob [.pointer (some ⟨gb,0,none⟩)] 66)]) (C:=xX ds++KY (pr++(sQ x134.name x134.body).map (fun s=>(s,x134.name))) z) hm
 replace hm:=hm.nf
 refine jF call104 (fun y171 w hG172 hm a he =>?_) (c:=j5r hy hv hpm hpr hps G (hf_.1) (K0:=(.blk y166.1 (ob [.string x134.name,.string x134.name,.slice p142 x134.params.length c143,.string x134.result,.int .i64 (x134.body.kind),.int .i64 (x134.body.num),.string x134.body.name,.slice p150 x134.body.args.length c151,.slice p156 x134.body.arms.length c157] 131)::.blk y166.2 (ob [.int .i64 (x134.body.kind),.int .i64 (x134.body.num),.string x134.body.name,.slice p150 x134.body.args.length c151,.slice p156 x134.body.arms.length c157] 110)::.blk b163 (ob [.string x134.name,.string x134.name,.slice p142 x134.params.length c143,.string x134.result,.int .i64 (x134.body.kind),.int .i64 (x134.body.num),.string x134.body.name,.slice p150 x134.body.args.length c151,.slice p156 x134.body.arms.length c157] 131)::.blk b161 (ob [.string x134.name,.slice p142 x134.params.length c143,.string x134.result,.int .i64 (x134.body.kind),.int .i64 (x134.body.num),.string x134.body.name,.slice p150 x134.body.args.length c151,.slice p156 x134.body.arms.length c157] 112)::.blk b26 (ob [.func yf_ ya_ yc_] 143)::.blk b (ob [.pointer (some ⟨gb,0,none⟩)] 66)::xX (Dk::ds))) (p0:=(pr++toP x134.name x134.name x134.body)) (q0:=_) h147 (hg_.1) (hg_.2) (by rw [hI127,zA hx135,List.flatMap_cons,cQ];simp only [List.append_assoc,List.cons_append,List.nil_append];rfl) hm)
 refine go fun a he =>?_
 replace hm:=hm.dl [3,2,1,0]
 refine hL126 _ _ _ (by subst hmu;omega) ⟨(i+1),(((pr++toP x134.name x134.name x134.body)++vL (wZ c) x134.name x134.body)),(y171),((Dk::ds)),rfl,he.pk,hm,?_⟩
 rw [hI127,zA hx135,List.flatMap_cons,cQ];simp only [List.append_assoc,List.cons_append,List.nil_append]
 refine go fun a he =>?_
 replace hm:=hm.dl [0]
 replace hm:Mem Φ (xX ds++(.blk b (ob [.pointer (some ⟨gb,0,none⟩)] 66)::KY pr zz)) w:=Mem.mid (A:=[.blk b (ob [.pointer (some ⟨gb,0,none⟩)] 66)]) (B:=xX ds) (C:=KY pr zz) hm
 refine hQ _ _ _ (retX0N (ds:=ds) he results102 hm fun w hm =>?_)
 have h_:=hI127
 rw [zE h129,List.flatMap_nil,List.append_nil] at h_
 rw [h_];exact ⟨_,rfl,trivial,hm⟩
end Go.Sw

namespace Go.Sw
open Go.Proofs.Tryz
open Go.Proofs
set_option maxRecDepth 20000
set_option maxHeartbeats 4000000
variable {Φ:Fz} {K:List Res} {w:World}
def ixG (s:Bs):List Bs→Nat→Int
 | [],_=>-1
 | x::l,i=>if s=x then ((i:Nat):Int) else ixG s l (i+1)
theorem y0f (s:Bs):∀(l:List Bs) (i:Nat),decide (0≤ixG s l i)=decide (s∈l)
 | [],_=>by simp [ixG]
 | x::l,i=>by
  by_cases h:s=x
  simp [ixG,h]
  simp only [ixG,if_neg h,y0f s l (i+1)];simp [h]
theorem RFlow.ones (Φ:Fz) (cs:List Value) (x:Flow) (h:RFlow Φ cs x):cs.all Value.oneCell'=true:=by rw [h];rfl
theorem z9y {Φ:Fz} {w:World} {σ:Type} {step:σ→Flow→Bool×σ} {Kf:σ→List Res} {g:Nat} {fs cs:List Value} {s0:σ} {v0:Value} {l:List Flow} (hl:SliceOf RFlow Φ 2 v0 l)
  (hg:∀args w,(callFunc g args).run prog w=.ok (.enter g args) w)
  (hf:∀s x c w,x∈l→RFlow Φ c x→Mem Φ (Kf s) w→Calls prog g (fs++[Value.agg c.toArray]++cs).toArray w (fun e w'=>e=.returned (.bool (step s x).1)∧Mem Φ (Kf (step s x).2) w'))
  (hm:Mem Φ (Kf s0) w):Calls prog 106 (List.toArray [v0,.func (.func g) fs.toArray cs.toArray]) w (fun e w'=>e=.returned (.int .i64 (yB step s0 l 0).1)∧Mem Φ (Kf (yB step s0 l 0).2) w'):=by
 obtain ⟨p0,c0,rfl,hm0,hn0⟩:=hl.fm
 refine zL func106 ntmps106 fun Q hQ a he =>?_
 refine go fun a he =>?_
 refine xD (fun mm a w=>∃(i:Nat) (s:σ),mm=l.length - i∧EnvR 19 [(0,.slice p0 l.length c0),(1,.func (.func g) (List.toArray fs) (List.toArray cs)),(7,.int .i64 ((l.length:Nat):Int)),(8,.int .i64 ((i:Nat):Int))] [] a∧Mem Φ (Kf s) w∧(yB step s0 l 0=yB step s (l.drop i) i)) (l.length - 0) ⟨0,s0,rfl,he.pk,hm,rfl⟩ ?_
 clear hm he
 rintro mm a w ⟨i,s,hmu,he,hm,hI5⟩ L4 hL4
 by_cases h7:i < l.length
 refine go fun a he =>?_
 obtain ⟨q12,rfl,x13,hx14,cs15,hl16,ha17,hr18⟩:=hl.el hn0 h7
 obtain rfl:=id hr18
 refine z8e hg (fun hB19 w hm a he =>?_) (fun hB19 w hm a he =>?_) (c:=by exact hf s _ _ _ (List.mem_of_getElem? hx14) hr18 hm)
 refine zI ?_
 have hf_:=hI5
 rw [zA hx14] at hf_
 simp only [yB,hB19,if_true] at hf_
 rw [hf_]
 exact ⟨rfl,hm⟩
 refine go fun a he =>?_
 refine hL4 _ _ _ (by subst hmu;omega) ⟨(i+1),((step s x13).2),rfl,he.pk,hm,?_⟩
 rw [hI5,zA hx14];simp [yB,hB19]
 refine zI ?_
 have hf_:=hI5
 rw [zE h7] at hf_
 simp only [yB] at hf_
 rw [hf_]
 exact ⟨rfl,hm⟩
theorem z1s {Φ:Fz} {w:World} {σ:Type} {step:σ→Flow→Bool×σ} {Kf:σ→List Res} {g:Nat} {fs cs:List Value} {s0:σ} {v0:Value} {l:List Flow} (hl:SliceOf RFlow Φ 2 v0 l)
  (hg:∀args w,(callFunc g args).run prog w=.ok (.enter g args) w)
  (hf:∀s x c w,x∈l→RFlow Φ c x→Mem Φ (Kf s) w→Calls prog g (fs++[Value.agg c.toArray]++cs).toArray w (fun e w'=>e=.returned (.bool (step s x).1)∧Mem Φ (Kf (step s x).2) w'))
  (hm:Mem Φ (Kf s0) w):Calls prog 71 (List.toArray [v0,.func (.func g) fs.toArray cs.toArray]) w (fun e w'=>e=.returned (.bool (tE step s0 l))∧Mem Φ (Kf (yB step s0 l 0).2) w'):=by
 obtain ⟨p0,c0,rfl,hm0,hn0⟩:=hl.fm
 refine Calls.mono (R:=fun e w'=>e=.returned (.bool (decide (0≤(yB step s0 l 0).1)))∧Mem Φ (Kf (yB step s0 l 0).2) w') ?_ (fun e w' h=>by rw [xY] at h;exact h)
 refine zL func71 ntmps71 fun Q hQ a he =>?_
 refine zZ call106 (fun w hm a he =>?_) (c:=z9y (Φ:=Φ) (step:=step) (Kf:=Kf) (s0:=s0) (l:=l) hl hg hf hm)
 refine Qq (fun a he =>?_) (o:=by exact fun he hs=>sN he rfl rfl)
 refine zI ?_
 exact ⟨rfl,hm⟩
theorem y6z {p:Flow→Bool} {g:Nat} {fs cs:List Value} {v0:Value} {l:List Flow} (hl:SliceOf RFlow Φ 2 v0 l)
  (hg:∀args w,(callFunc g args).run prog w=.ok (.enter g args) w)
  (hf:∀x c w,x∈l→RFlow Φ c x→Mem Φ K w→Calls prog g (fs++[Value.agg c.toArray]++cs).toArray w (fun e w'=>e=.returned (.bool (p x))∧Mem Φ K w'))
  (hm:Mem Φ K w):Calls prog 71 (List.toArray [v0,.func (.func g) fs.toArray cs.toArray]) w (fun e w'=>e=.returned (.bool (l.any p))∧Mem Φ K w') :=
 (z1s (σ:=Unit) (step:=fun s x=>(p x,s)) (Kf:=fun _=>K) (s0:=()) hl hg (fun _ x c w hx hc hm=>hf x c w hx hc hm) hm).mono (fun e w' h=>by rw [pF] at h;exact h)
theorem j8h {v:Value} {l:List Bs} {s:Bs} (rl:SliceOf RStr Φ 1 v l) (hm:Mem Φ K w) :
  Calls prog 83 (List.toArray [v,.string s]) w (fun ee w'=>ee=.returned (.int .i64 (ixG s l 0))∧Mem Φ K w'):=by
 obtain ⟨p1,c2,rfl,hmx3,hn4⟩:=rl.fm
 refine zL func83 ntmps83 fun Q hQ a he =>?_
 refine go fun a he =>?_
 refine yF (he.ks [0,1,7]) hm (fun R mm a w=>∃(i:Nat),mm=l.length - i∧R Φ [(8,.int .i64 ((i:Nat):Int))] [] a w∧(ixG s l 0=ixG s (l.drop i) i)) (l.length - 0) ⟨0,rfl,⟨he.pk,hm⟩,rfl⟩ ?_
 clear hm he
 rintro mm a w ⟨i,hmu,⟨he,hm⟩,hI9⟩ L8 hL8
 by_cases h11:i < l.length
 refine go fun a he =>?_
 obtain ⟨q16,rfl,x17,hx18,cs19,hl20,ha21,hr22⟩:=rl.el hn4 h11
 obtain rfl:cs19=[.string x17]:=hr22
 by_cases h23:s=x17
 refine zI ?_
 rw [hI9,zA hx18,ixG,if_pos h23];exact ⟨rfl,hm⟩
 refine go fun a he =>?_
 refine hL8 _ _ _ (by subst hmu;omega) ⟨(i+1),rfl,⟨he.pk,hm⟩,?_⟩
 rw [hI9,zA hx18,ixG,if_neg h23]
 refine zI ?_
 rw [hI9,zE h11];exact ⟨rfl,hm⟩
theorem q0d {v:Value} {l:List Bs} {s:Bs} (rl:SliceOf RStr Φ 1 v l) (hm:Mem Φ K w) :
  Calls prog 48 (List.toArray [v,.string s]) w (fun ee w'=>ee=.returned (.bool (decide (s∈l)))∧Mem Φ K w'):=by
 obtain ⟨p1,c2,rfl,hmx3,hn4⟩:=rl.fm
 rw [← y0f s l 0]
 refine zL func48 ntmps48 fun Q hQ a he =>?_
 refine zZ call83 (fun w hm a he =>?_) (c:=j8h (l:=l) rl hm)
 refine Qq (fun a he =>?_) (o:=by exact fun he hs=>sN he rfl rfl)
 refine zI ?_
 exact ⟨rfl,hm⟩
theorem j5j {v u:Value} {l m:List Bs} (rl:SliceOf RStr Φ 1 v l) (rm:SliceOf RStr Φ 1 u m) (hm:Mem Φ K w) :
  Calls prog 68 (List.toArray [v,u]) w (fun ee w'=>ee=.returned (.bool (decide (l=m)))∧Mem Φ K w'):=by
 obtain ⟨p1,c2,rfl,hmx3,hn4⟩:=rl.fm
 obtain ⟨p5,c6,rfl,hmx7,hn8⟩:=rm.fm
 refine zL func68 ntmps68 fun Q hQ a he =>?_
 by_cases h12:l.length=m.length
 refine go fun a he =>?_
 refine yF (he.ks [0,1,12]) hm (fun R mm a w=>∃(i:Nat),mm=l.length - i∧R Φ [(13,.int .i64 ((i:Nat):Int))] [] a w∧((l=m↔l.drop i=m.drop i))) (l.length - 0) ⟨0,rfl,⟨he.pk,hm⟩,Iff.rfl⟩ ?_
 clear hm he
 rintro mm a w ⟨i,hmu,⟨he,hm⟩,hI16⟩ L15 hL15
 by_cases h18:i < l.length
 refine Reg [1,1,1,2,1,1,1,2,1] [] fun w hm a he =>?_
 refine go fun a he =>?_
 obtain ⟨q23,rfl,x24,hx25,cs26,hl27,ha28,hr29⟩:=rl.el hn4 h18
 obtain rfl:cs26=[.string x24]:=hr29
 refine go fun a he =>?_
 have hb30:i < m.length:=by omega
 obtain ⟨q31,rfl,x32,hx33,cs34,hl35,ha36,hr37⟩:=rm.el hn8 hb30
 obtain rfl:cs34=[.string x32]:=hr37
 by_cases h38:x24=x32
 refine go fun a he =>?_
 refine hL15 _ _ _ (by subst hmu;omega) ⟨(i+1),rfl,⟨he.pk,hm⟩,?_⟩
 rw [hI16,zA hx25,zA hx33,h38];simp
 refine zI ?_
 rw [decide_eq_false (fun e_=>h38 (by have h_:=hI16.1 e_;rw [zA hx25,zA hx33] at h_;exact (List.cons.inj h_).1))];exact ⟨rfl,hm⟩
 refine zI ?_
 rw [decide_eq_true (hI16.2 (by rw [zE h18,zE (by omega)]))];exact ⟨rfl,hm⟩
 refine zI ?_
 rw [decide_eq_false (fun e_=>h12 (by rw [e_]))];exact ⟨rfl,hm⟩
end Go.Sw

namespace Go.Sw
open Go.Proofs
set_option maxRecDepth 20000
set_option maxHeartbeats 4000000
def walkV (b:Addr):Value:=.func (.func 67) (List.toArray [.pointer (some b)]) (List.toArray [])
def RGraph (Φ:Fz) (b:Addr) (g:Graph):Prop:=∃d0 nd fl pm nb nm,At Φ b (d0++[nd,fl,pm,.map (some nb),walkV b])∧RCore Φ d0 g.core∧SliceOf RStr Φ 1 nd g.nodes∧SliceOf RFlow Φ 2 fl g.flows∧MapAt Φ nb nm∧MapRel (fun v x=>SliceOf RStr Φ 1 v x) nm g.next
theorem z2y {Φ:Fz} {K:List Res} {w:World} {b:Addr} {g:Graph} (rg:RGraph Φ b g) (hz:∀p∈g.core.inputs,p.name.size≤1000) (hn:g.core.inputs.length≤1000000000) (hm:Mem Φ K w) :
  Calls Tryz.prog 39 (List.toArray [.pointer (some b)]) w (fun ee w'=>∃v:Value,ee=.returned v∧True∧Mem Φ (.gs v 9 1 (strs (yN g.core))::K) w'):=by
 obtain ⟨d1,nd2,fl3,pm4,nb5,nm6,hat7,rc8,rn9,rf10,ma11,mr12⟩:=id rg
 have rc8o:=rc8
 obtain ⟨p15,c16,p21,c22,p27,c28,p33,c34,rfl,h14,h20,h26,h32,hm17,hn18,hm23,hn24,hm29,hn30,hm35,hn36⟩:=RCore.fm rc8
 obtain ⟨p37,c38,rfl,hmx39,hn40⟩:=rn9.fm
 obtain ⟨p41,c42,rfl,hmx43,hn44⟩:=rf10.fm
 refine zL Tryz.func39 Tryz.ntmps39 fun Q hQ a he =>?_
 refine go fun a he =>?_
 replace hm:=hm.nilRow 9 1
 replace hm:=hm.nf
 refine go fun a he =>?_
 refine yF (he.ks [10,11]) hm (fun R mm a w=>∃(i:Nat) (u:Value) (acc:List Bs),mm=g.core.inputs.length - i∧R Φ [(3,u),(12,.int .i64 ((i:Nat):Int))] [(0,.gs (u) 9 1 (strs acc))] a w∧(yN g.core=acc++(g.core.inputs.drop i).map (fun p=>inN p.name))) (g.core.inputs.length - 0) ⟨0,.slice none 0 0,[],rfl,⟨he.pk,hm⟩,rfl⟩ ?_
 clear hm he
 rintro mm a w ⟨i,u,acc,hmu,⟨he,hm⟩,hI50⟩ L49 hL49
 replace hm:=hm.nf
 by_cases h52:i < g.core.inputs.length
 refine go fun a he =>?_
 obtain ⟨q56,rfl,x57,hx58,cs59,hl60,ha61,hr62⟩:=h20.el hn24 h52
 obtain rfl:=id hr62
 refine Alc fun b63 w hm a he =>?_
 refine Sto 0 fun w hm a he =>?_
 have hz_:=hz _ (List.mem_of_getElem? hx58)
 refine yJ fun a he =>?_
 refine zZ Tryz.call40 (fun w hm a he =>?_) (c:=z9t (by omega) hm)
 refine qW fun v64 w hm a he =>?_
 refine qL 2 pS (fun v65 w hm a he =>?_) (hb:=by have hq_:=congrArg List.length hI50;simp only [yN,List.length_map,List.length_append,List.length_drop,yH,List.length_cons,List.length_nil] at hq_ ⊢;omega)
 replace hm:Mem Φ (.gs (v64) 9 1 [.string (inN x57.name)]::.blk b63 (ob [.string x57.name,.string x57.type] 36)::.gs (v65) 9 1 (strs (acc++[inN x57.name]))::K) w:=by rw [qY] at hm;exact hm
 refine go fun a he =>?_
 replace hm:=hm.dl [1,0]
 refine hL49 _ _ _ (by subst hmu;omega) ⟨(i+1),(v65),((acc++[inN x57.name])),rfl,⟨he.pk,hm⟩,?_⟩
 rw [hI50,zA hx58];simp
 refine zI ?_
 have h_:=hI50
 rw [zE h52,List.map_nil,List.append_nil] at h_
 rw [h_];exact ⟨_,rfl,trivial,hm⟩
end Go.Sw
