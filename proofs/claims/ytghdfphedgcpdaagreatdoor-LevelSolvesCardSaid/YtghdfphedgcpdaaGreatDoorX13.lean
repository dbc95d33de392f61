import Derived.Test.YtghdfphedgcpdaaGreatDoorX12
set_option linter.unusedVariables false
set_option linter.unusedSimpArgs false
namespace Go.Sw
open Go.Proofs Go.Proofs.Tryz
set_option maxRecDepth 20000
set_option maxHeartbeats 4000000
def z4i {α:Type} [DecidableEq α] (a:List α) (x:α):List α:=if x∈a then a else a++[x]
def yL {α:Type} [DecidableEq α] (a l:List α):List α:=l.foldl z4i a
section
variable {α:Type} [DecidableEq α] {a l m:List α} {x y:α}
theorem z5i:yL a (x::l)=yL (z4i a x) l:=rfl
theorem qS:yL a (l++m)=yL (yL a l) m:=List.foldl_append ..
theorem j5w (h:x∈a):z4i a x=a:=if_pos h
theorem q6c (h:¬x∈a):z4i a x=a++[x]:=if_neg h
theorem q6b:(z4i a x).length<=a.length+1:=by
 unfold z4i;split
 ·omega
 ·simp
theorem z0a:∀{l:List α} {a:List α},(yL a l).length<=a.length+l.length
 | [],a=>by simp [yL]
 | x::l,a=>by
  rw [z5i,lcQ]
  have h1:=z0a (l:=l) (a:=z4i a x)
  have b:=q6b (a:=a) (x:=x)
  omega
end
mutual
def okR (T:Table):Ex->Prop
 | .mk k _ s args arms=>(k≠7->arms=[])/\(k=5->∃g,zK T.funs s=some g/\args.length<=g.params.length)/\(k=6->args≠[])/\okRs T args/\okRa T arms
def okRs (T:Table):List Ex->Prop
 | []=>True
 | x::l=>okR T x/\okRs T l
def okRa (T:Table):List Arm->Prop
 | []=>True
 | .mk _ _ b::l=>okR T b/\okRa T l
end
section
variable {T:Table} {pm:Pars} {f:Bs}
theorem nB (e:Ex):okR T e↔(e.kind≠7->e.arms=[])/\(e.kind=5->∃g,zK T.funs e.name=some g/\e.args.length<=g.params.length)/\(e.kind=6->e.args≠[])/\okRs T e.args/\okRa T e.arms:=by
 cases e;simp only [okR,Ex.kind,Ex.name,Ex.args,Ex.arms]
theorem x1w (a:Arm) (l:List Arm):okRa T (a::l)↔okR T a.body/\okRa T l:=by cases a;simp [okRa,Arm.body]
theorem okRs_iff:∀{l:List Ex},okRs T l↔∀e∈l,okR T e
 | []=>by simp [okRs]
 | a::l=>by simp only [okRs,okRs_iff (l:=l)];simp
theorem okRa_iff:∀{l:List Arm},okRa T l↔∀a∈l,okR T a.body
 | []=>by simp [okRa]
 | a::l=>by rw [x1w,okRa_iff];simp
theorem okR_of {s:Scope} {e:Ex} {t:Bs} (h:Tyd T s e t):okR T e:=by
 induction h with
 | num g j hr=>rw [nB,j,hr];exact ⟨fun _=>rfl,fun h=>absurd h (by omega),fun h=>absurd h (by omega),trivial,trivial⟩
 | var g j hr=>rw [nB,j,hr];exact ⟨fun _=>rfl,fun h=>absurd h (by omega),fun h=>absurd h (by omega),trivial,trivial⟩
 | inp g j hr=>rw [nB,j,hr];exact ⟨fun _=>rfl,fun h=>absurd h (by omega),fun h=>absurd h (by omega),trivial,trivial⟩
 | con g hr _ hl _ n=>
  rw [nB,hr]
  refine ⟨fun _=>rfl,fun h=>absurd h (by omega),fun h=>absurd h (by omega),okRs_iff.2 fun x l=>?_,trivial⟩
  obtain ⟨i,f⟩:=List.getElem?_of_mem l
  obtain ⟨t,m⟩:=yG (i:=i) (hl▸(List.getElem?_eq_some_iff.1 f).1)
  exact n i x t f m
 | call g hr p hl _ n=>
  rw [nB,hr]
  refine ⟨fun _=>rfl,fun _=>⟨_,p,by omega⟩,fun h=>absurd h (by omega),okRs_iff.2 fun x l=>?_,trivial⟩
  obtain ⟨i,f⟩:=List.getElem?_of_mem l
  obtain ⟨t,m⟩:=yG (i:=i) (hl▸(List.getElem?_eq_some_iff.1 f).1)
  exact n i x t f m
 | let_ g hr k _ _ b d=>
  rw [nB,hr,k]
  refine ⟨fun _=>rfl,fun h=>absurd h (by omega),fun _ h=>?_,⟨b,d,trivial⟩,trivial⟩
  cases h
 | case_ g l _ q hl _ _ b d=>
  rw [nB,l]
  refine ⟨fun h=>absurd g h,fun h=>absurd h (by omega),fun h=>absurd h (by omega),⟨b,trivial⟩,okRa_iff.2 fun a j=>?_⟩
  obtain ⟨i,f⟩:=List.getElem?_of_mem j
  obtain ⟨c,o⟩:=yG (i:=i) (hl▸(List.getElem?_eq_some_iff.1 f).1)
  exact d i a c f o
 | op g hr k _ _ b d=>
  rw [nB,hr,k]
  exact ⟨fun _=>rfl,fun h=>absurd h (by omega),fun h=>absurd h (by omega),⟨b,d,trivial⟩,trivial⟩
def oJ (f:Bs) (e:Ex) (i:Nat):List Bs:=(if e.kind=8 then srcPs f (e.args.drop i) else if i=0 then srcH f e.args else [])++srcPa f e.arms
theorem sK {e:Ex} (a:e.kind=8∨e.kind=7) (b:okR T e):qY f e=oJ f e 0:=by
 rcases a with h | h
 ·rw [q5o h,oJ,if_pos h,((nB e).1 b).1 (by omega)];simp [srcPa]
 ·rw [tY h,oJ,if_neg (by omega),if_pos rfl]
theorem pH {e x:Ex} {i:Nat} (b:e.args[i]? = some x) (h:i=0∨e.kind=8):oJ f e i=qY f x++oJ f e (i+1):=by
 unfold oJ
 by_cases a:e.kind=8
 ·rw [if_pos a,if_pos a,zA b,srcPs,List.append_assoc]
 ·obtain rfl:i=0:=h.resolve_right a
  rw [if_neg a,if_neg a,if_pos rfl,if_neg (by omega),List.nil_append]
  have:=zA b
  rw [List.drop_zero] at this
  rw [this,srcH]
theorem x2e {e:Ex} {i:Nat} (h:¬i < e.args.length):oJ f e i=srcPa f e.arms:=by
 unfold oJ
 by_cases a:e.kind=8
 ·rw [if_pos a,zB h];rfl
 ·rw [if_neg a]
  split
  ·subst i
   rw [List.eq_nil_of_length_eq_zero (by omega:e.args.length=0)];rfl
  ·rfl
theorem j4a {e:Ex} {i:Nat} (h:¬i=0) (a:¬e.kind=8):oJ f e i=srcPa f e.arms:=by
 rw [oJ,if_neg a,if_neg h];rfl
end
section
variable {f s:Bs} {pm:Pars}
theorem srcS_le:∀l:List Ex,(srcS f l).length<=(srcPs f l).length
 | []=>Nat.le_refl _
 | [_]=>by simp [srcS,srcH]
 | x::y::l=>by simp only [srcS,srcH,srcPs,laQ];omega
theorem srcH_le:∀l:List Ex,(srcH f l).length<=(srcPs f l).length
 | []=>Nat.le_refl _
 | x::l=>by simp only [srcH,srcPs,laQ];omega
mutual
theorem z2j:∀(e:Ex) (l:Int),(jD e l).1=false->((qY f e).length:Int)<=l - (jD e l).2/\(jD e l).2+1<=l
 | .mk k n s args arms,l=>by
  intro h
  simp only [jD] at h ⊢
  split at h
  ·cases h
  ·rename_i hl
   rw [if_neg hl]
   cases N:meass args (l - 1) with
   | mk b q=>
    rw [N] at h
    cases b with
    | true=>cases h
    | false=>
     have a:=srcPs_len args (l - 1) (by rw [N])
     have d:=srcPa_len arms q h
     rw [N] at a
     have i:=srcS_le (f:=f) args
     have j:=srcH_le (f:=f) args
     simp only at a d ⊢
     have m:(qY f (.mk k n s args arms)).length<=1+(srcPs f args).length+(srcPa f arms).length:=by
      simp only [qY]
      repeat' split
      all_goals first | omega | (simp only [laQ,lcQ,lnQ];omega)
     omega
theorem srcPs_len:∀(es:List Ex) (l:Int),(meass es l).1=false->((srcPs f es).length:Int)<=l - (meass es l).2/\(meass es l).2<=l
 | [],l=>by intro _;simp [srcPs,meass]
 | e::es,l=>by
  intro h
  simp only [meass] at h ⊢
  cases N:jD e l with
  | mk b q=>
   rw [N] at h
   cases b with
   | true=>cases h
   | false=>
    have a:=z2j e l (by rw [N])
    have d:=srcPs_len es q h
    rw [N] at a
    simp only [srcPs,laQ] at a ⊢
    omega
theorem srcPa_len:∀(es:List Arm) (l:Int),(measa es l).1=false->((srcPa f es).length:Int)<=l - (measa es l).2/\(measa es l).2<=l
 | [],l=>by intro _;simp [srcPa,measa]
 | .mk c vs b::es,l=>by
  intro h
  simp only [measa] at h ⊢
  split at h
  ·cases h
  ·rename_i g
   rw [if_neg g]
   cases N:jD b l with
   | mk q0 q=>
    rw [N] at h
    cases q0 with
    | true=>cases h
    | false=>
     have a:=z2j b l (by rw [N])
     have d:=srcPa_len es q h
     rw [N] at a
     simp only [srcPa,laQ] at a ⊢
     omega
end
theorem q5q (node:Bs) (e:Ex):(toP f node e).length<=(qY f e).length:=by rw [toP,List.length_map];exact aC _
theorem j6h:∀(l:List Ex) (k:Nat),(z5z f s k l).length<=(srcPs f l).length
 | [],_=>Nat.le_refl _
 | x::l,k=>by have h1:=q5q (f:=f) (kA s k) x;have a:=j6h l (k+1);simp only [z5z,srcPs,laQ];omega
theorem q6r:∀(ps:List Param) (l:List Ex),(cF f s ps l).length<=(srcPs f l).length
 | [],l=>by simp [cF]
 | _::_,[]=>Nat.le_refl _
 | p::ps,x::l=>by have h1:=q5q (f:=f) (vrN s p.name) x;have a:=q6r ps l;simp only [cF,srcPs,laQ];omega
theorem letF_le:∀(l:List Ex),(letF f s l).length<=(srcPs f l).length
 | []=>Nat.le_refl _
 | x::l=>by have h1:=q5q (f:=f) (vrN f s) x;simp only [letF,srcPs,laQ];omega
theorem j0y:∀(l:List Bs) (k:Nat),(z3v f s k l).length=l.length
 | [],_=>rfl
 | _::l,k=>by simp only [z3v,lcQ,j0y l (k+1)]
theorem j5y:∀(es:List Arm) (l:Int),(measa es l).1=false->((uH f es).length:Int)<=16 * (l - (measa es l).2)
 | [],l=>by intro _;simp [uH,measa]
 | .mk c vs b::es,l=>by
  intro h
  simp only [measa] at h ⊢
  split at h
  ·cases h
  ·rename_i d
   rw [if_neg d]
   cases N:jD b l with
   | mk q0 q=>
    rw [N] at h
    cases q0 with
    | true=>cases h
    | false=>
     have a:=z2j (f:=f) b l (by rw [N])
     have g:=j5y es q h
     rw [N] at a
     have e:(uH f (.mk c vs b::es)).length=vs.length+(uH f es).length:=by simp only [uH,List.flatMap_cons,laQ,Arm.con,Arm.vars,j0y]
     rw [e];simp only at a ⊢;omega
theorem x6s (e:Ex) {l q:Int} (hl:1<=l) (h1:(meass e.args (l - 1)).1=false) (a:(measa e.arms (meass e.args (l - 1)).2).1=false):((wZ pm f e).length:Int)<=16 * l:=by
 have c:=srcPs_len (f:=f) e.args (l - 1) h1
 have d:=j5y (f:=f) e.arms _ a
 have b:=meass_le e.args (l - 1) h1 (by omega)
 have g:=measa_le e.arms _ a b.1
 unfold wZ
 split
 ·have:=j6h (f:=f) (s:=e.name) e.args 0;omega
 ·split
  ·have:=q6r (f:=f) (s:=e.name) ((zK pm e.name).getD []) e.args;omega
  ·split
   ·have:=letF_le (f:=f) (s:=e.name) e.args;omega
   ·split
    ·omega
    ·simp;omega
mutual
theorem z8i:∀(e:Ex) (l:Int),l<=6000->(jD e l).1=false->((jK pm f e).length:Int)<=96000 * (l - (jD e l).2)
 | .mk k n s args arms,l=>by
  intro g h
  simp only [jD] at h ⊢
  split at h
  ·cases h
  ·rename_i hl
   rw [if_neg hl]
   cases N:meass args (l - 1) with
   | mk b q=>
    rw [N] at h
    cases b with
    | true=>cases h
    | false=>
     have a:=meass_le args (l - 1) (by rw [N]) (by omega)
     have d:=flowPs_len args (l - 1) (by omega) (by rw [N])
     have i:=flowPa_len arms q (by rw [N] at a;simp only at a;omega) h
     have m:=x6s (pm:=pm) (f:=f) (.mk k n s args arms) (l:=l) (q:=0) (by omega) (by simp only [Ex.args];rw [N]) (by simp only [Ex.args,Ex.arms];rw [N];exact h)
     rw [N] at d
     simp only [jK,laQ] at d i ⊢
     omega
theorem flowPs_len:∀(es:List Ex) (l:Int),l<=6000->(meass es l).1=false->((flowPs pm f es).length:Int)<=96000 * (l - (meass es l).2)
 | [],l=>by intro _ _;simp [flowPs,meass]
 | e::es,l=>by
  intro g h
  simp only [meass] at h ⊢
  cases N:jD e l with
  | mk b q=>
   rw [N] at h
   cases b with
   | true=>cases h
   | false=>
    have d:=z8i e l g (by rw [N])
    have a:=(wI e l (by rw [N])).2
    rw [N] at d a
    have i:=flowPs_len es q (by simp only at a;omega) h
    simp only [flowPs,laQ] at d ⊢
    omega
theorem flowPa_len:∀(es:List Arm) (l:Int),l<=6000->(measa es l).1=false->((flowPa pm f es).length:Int)<=96000 * (l - (measa es l).2)
 | [],l=>by intro _ _;simp [flowPa,measa]
 | .mk c vs b::es,l=>by
  intro g h
  simp only [measa] at h ⊢
  split at h
  ·cases h
  ·rename_i j
   rw [if_neg j]
   cases N:jD b l with
   | mk q0 q=>
    rw [N] at h
    cases q0 with
    | true=>cases h
    | false=>
     have d:=z8i b l g (by rw [N])
     have a:=(wI b l (by rw [N])).2
     rw [N] at d a
     have i:=flowPa_len es q (by simp only at a;omega) h
     simp only [flowPa,laQ] at d ⊢
     omega
end
end
structure TTidy (T:Table):Prop where
 inp:∀n t,zK T.inputs n=some t->n.size<=1000
 fn:∀n f,zK T.funs n=some f->n.size<=1000/\f.params.length<=1000
 con:∀n m,zK T.cons n=some m->n.size<=1000/\m.con.fields.length<=1000
 arm:∀n d,zK T.datas n=some d->∀x∈d.cons,x.name.size<=1000/\x.fields.length<=1000
theorem tidy_of {T:Table} (B:TTidy T) {V:List Bs} (C:∀v∈V,v.size<=1000) {s:Scope} {e:Ex} {t:Bs} (h:Tyd T s e t):InV V s->(∀b∈zN e,b∈V)->wU e:=by
 induction h with
 | num o q hb=>intro _ _;rw [kZ,q,hb];simp [o]
 | var o q hb w=>intro O _;rw [kZ,q,hb];exact ⟨fun _ _=>C _ (O _ _ w),by simp,by simp,by simp⟩
 | inp o q hb w=>intro O _;rw [kZ,q,hb];exact ⟨fun _ _=>B.inp _ _ w,by simp,by simp,by simp⟩
 | @con s e m o z N hl A F=>
  intro O hb
  obtain ⟨h1,G⟩:=B.con _ _ N
  rw [kZ,z]
  refine ⟨fun _ _=>h1,by omega,fun x f=>?_,by simp⟩
  obtain ⟨i,p⟩:=List.getElem?_of_mem f
  obtain ⟨u,E⟩:=yG (l:=m.con.fields) (i:=i) (by have:=(List.getElem?_eq_some_iff.1 p).1;omega)
  exact F i x u p E O (xY hb f)
 | @call s e g o z N hl A F=>
  intro O hb
  obtain ⟨h1,G⟩:=B.fn _ _ N
  rw [kZ,z]
  refine ⟨fun _ _=>h1,by omega,fun x f=>?_,by simp⟩
  obtain ⟨i,p⟩:=List.getElem?_of_mem f
  obtain ⟨u,E⟩:=yG (l:=g.params) (i:=i) (by have:=(List.getElem?_eq_some_iff.1 p).1;omega)
  exact F i x u p E O (xY hb f)
 | let_ o z j _ _ k n=>
  intro O hb
  rw [kZ,z,j]
  refine ⟨fun _ _=>C _ (y2t hb o),by simp,fun x f=>?_,by simp⟩
  rcases List.mem_cons.1 f with rfl | f
  ·exact k O (xY hb (by rw [j];simp))
  ·rw [List.mem_singleton] at f;subst f
   exact n (O.put (y2t hb o)) (xY hb (by rw [j];simp))
 | @case_ s e x dt u d o f A K L I M k n=>
  intro O hb
  rw [kZ,f]
  refine ⟨fun _ h=>(by omega),by simp,fun y H=>?_,fun a q=>?_⟩
  ·rw [List.mem_singleton] at H;subst H;exact k O (xY hb (by rw [f];simp))
  ·obtain ⟨i,p⟩:=List.getElem?_of_mem q
   obtain ⟨c,r⟩:=yG (l:=d.cons) (i:=i) (by have:=(List.getElem?_eq_some_iff.1 p).1;omega)
   have hb':=y2s hb q
   obtain ⟨h1,G⟩:=B.arm _ _ K c (mgQ r)
   obtain ⟨g1,P⟩:=I i a c p r
   refine ⟨by rw [g1];exact h1,by omega,fun v w=>C _ (hb' v (List.mem_append_left _ w)),?_⟩
   exact n i a c p r (O.putAll fun v w=>hb' v (List.mem_append_left _ w)) (fun b D=>hb' b (List.mem_append_right _ D))
 | op o z j _ _ k n=>
  intro O hb
  rw [kZ,z,j]
  refine ⟨fun _ h=>(by omega),by simp,fun x f=>?_,by simp⟩
  rcases List.mem_cons.1 f with rfl | f
  ·exact k O (xY hb (by rw [j];simp))
  ·rw [List.mem_singleton] at f;subst f;exact n O (xY hb (by rw [j];simp))
section
variable {c:Core}
theorem tI (hl:xL c=false) {d:Data} (a:d∈c.datas):d.cons.length<=16/\∀x∈d.cons,x.fields.length<=16:=by
 simp only [xL,Bool.or_eq_false_iff,List.any_eq_false] at hl
 have:=hl.1.2 d a
 simp only [dD,Bool.or_eq_true,decide_eq_true_eq,not_or,List.any_eq_true,not_exists,not_and] at this
 exact ⟨by omega,fun x b=>by have:=this.2 x b;omega⟩
theorem z0m:∀x∈truthsD.cons,x.name.size<=1000/\x.fields.length<=1000:=by
 intro x a
 simp only [truthsD,List.mem_cons,List.not_mem_nil,or_false] at a
 rcases a with rfl | rfl <;> exact ⟨by decide,by decide⟩
theorem ttidy (h:Right c) (hl:xL c=false):TTidy (yJ c) where
 inp n t a:=by
  rw [h.inputs] at a
  obtain ⟨p,k,e,_⟩:=vM a
  have:=tO (h.iN p k);rw [<- e];omega
 fn n f a:=by
  rw [h.funs] at a
  obtain ⟨x,b,j,e2⟩:=vM a
  have e3:x=f:=e2
  subst e3;subst j
  have:=tO (h.fN x b);have:=(z1w hl b).1;omega
 con n m a:=by
  rw [h.cons] at a
  obtain ⟨d,g,j,e2,e3⟩:=y9w a
  rw [<- e3]
  rcases List.mem_cons.1 g with rfl | g
  ·exact z0m _ e2
  ·have:=y3t (z6a h g e2);have:=(tI hl g).2 _ e2;omega
 arm n d a x b:=by
  rw [h.datas] at a
  obtain ⟨y,i,_,e2⟩:=vM a
  have e3:y=d:=e2
  subst e3
  rcases List.mem_cons.1 i with rfl | i
  ·exact z0m _ b
  ·have:=y3t (z6a h i b);have:=(tI hl i).2 _ b;omega
theorem z8l (h:Right c) {f:Fun} (a:f∈c.funs):∀v∈f.params.map Param.name++zN f.body,v.size<=1000:=fun v b=>by
 have:=tO ((z8m h a).names v b);omega
theorem tidyC (h:Right c) (hl:xL c=false):TidyC c where
 inp p a:=by have:=tO (h.iN p a);omega
 con d e x i:=by have:=y3t (z6a h e i);have:=(tI hl e).2 _ i;omega
 fn f g:=by
  have h1:=z8l h g
  have:=tO (h.fN f g)
  exact ⟨by omega,fun p a=>h1 _ (List.mem_append_left _ (List.mem_map_of_mem a)),fun b hb=>h1 b (List.mem_append_right _ hb)⟩
theorem nZ {α β:Type} {f:α->List β} {n:Nat}:∀{l:List α},(∀x∈l,(f x).length<=n)->(l.flatMap f).length<=l.length * n
 | [],_=>by simp
 | x::l,h=>by
  rw [List.flatMap_cons,laQ,lcQ,Nat.add_mul]
  have h1:=h x msQ
  have b:=nZ (l:=l) fun y a=>h y (mcQ _ a)
  omega
theorem x1n (hl:xL c=false):(zG c).length<=1000000000:=by
 have i:=z1x hl;have a2:=z5b hl;have a3:=q1j hl
 have j:(c.datas.flatMap z6c).length<=c.datas.length * 256:=nZ fun d b=>by
  obtain ⟨h1,a⟩:=tI hl b
  have:(z6c d).length<=d.cons.length * 16:=nZ fun x h=>by simp only [z6i,List.length_map,List.length_range];exact a x h
  omega
 have k:(c.funs.flatMap dP).length<=c.funs.length * 102017:=nZ fun f g=>by
  obtain ⟨h1,a⟩:=z1w hl g
  simp only [dP,lcQ,laQ,List.length_map];omega
 have e:(zG c).length=c.inputs.length+(c.datas.flatMap z6c).length+(c.funs.flatMap dP).length:=by simp only [zG,laQ,List.length_map]
 rw [e]
 have c2:c.datas.length * 256<=60 * 256:=Nat.mul_le_mul_right _ a2
 have c3:c.funs.length * 102017<=300 * 102017:=Nat.mul_le_mul_right _ a3
 omega
theorem q1a (i:Param) (x:Bs):∀(l:List Bs) (k:Nat),(kQ i x k l).length<=l.length
 | [],_=>Nat.le_refl _
 | t::l,k=>by
  have:=q1a i x l (k+1)
  simp only [kQ,laQ,lcQ];split <;> simp <;> omega
theorem j9x (hl:xL c=false):(xX c).length<=1000000000000:=by
 have a:=z1x hl;have a2:=z5b hl;have a3:=q1j hl
 have k:(c.inputs.flatMap (uQ c)).length<=c.inputs.length * 15360:=nZ fun i o=>by
  have:(uQ c i).length<=c.datas.length * 256:=nZ fun d g=>by
   obtain ⟨h1,b⟩:=tI hl g
   unfold tD
   split
   ·have:(d.cons.flatMap fun x=>kQ i x.name 0 x.fields).length<=d.cons.length * 16:=nZ fun x j=>Nat.le_trans (q1a i x.name x.fields 0) (b x j)
    omega
   ·simp
  have:c.datas.length * 256<=60 * 256:=Nat.mul_le_mul_right _ a2
  omega
 have l:(c.funs.flatMap (wO (yC c))).length<=c.funs.length * 600000000:=nZ fun f h=>by
  obtain ⟨m,m1,m2⟩:=z5c hl h
  have p:=z2j (f:=f.name) f.body m m2
  have q:=z8i (pm:=yC c) (f:=f.name) f.body m m1 m2
  have r:=(wI f.body m m2).1
  have s:=q5q (f:=f.name) f.name f.body
  simp only [wO,laQ]
  omega
 have e:(xX c).length=(c.inputs.flatMap (uQ c)).length+(c.funs.flatMap (wO (yC c))).length:=by simp only [xX,laQ]
 rw [e]
 have n:c.inputs.length * 15360<=6 * 15360:=Nat.mul_le_mul_right _ a
 have c3:c.funs.length * 600000000<=300 * 600000000:=Nat.mul_le_mul_right _ a3
 omega
theorem q9m {n:Bs} {ps:List Param}:∀{l:List Fun} {m:Pars},zK (l.foldl (fun m f=>jO m f.name f.params) m) n=some ps->zK m n=some ps∨∃f∈l,f.params=ps
 | [],_,h=>.inl h
 | f::l,m,h=>by
  rcases q9m (l:=l) (m:=jO m f.name f.params) h with h1 | ⟨g,a,e⟩
  ·rw [xB] at h1
   split at h1
   ·cases h1;exact .inr ⟨f,msQ,rfl⟩
   ·exact .inl h1
  ·exact .inr ⟨g,mcQ _ a,e⟩
theorem jA (h:zX c=0):LOk c:=by
 have a:=oB h
 obtain ⟨hl,_⟩:=j3c h
 refine ⟨tidyC a hl,x1n hl,by have:=z1x hl;omega,fun f d=>⟨tidy_of (ttidy a hl) (z8l a d) (z8m a d).ty z8t (fun b hb=>List.mem_append_right _ hb),q6p a d⟩,fun n ps e p g=>?_,j9x hl,x6q a hl⟩
 rcases q9m e with h1 | ⟨f,d,rfl⟩
 ·cases h1
 ·exact z8l a d _ (List.mem_append_left _ (List.mem_map_of_mem g))
end
theorem q9s {s:Bs} (h:kT (s.extract 0 s.size) ⟨#[40,42]⟩=true):zF s 0=40:=by
 simp only [kT,baQ,decide_eq_true_eq] at h
 obtain ⟨h1,c⟩:=h
 have h1:2<=s.size:=by
  have d:(⟨#[40,42]⟩:Bs).size=2:=rfl
  rw [ByteArray.size_extract] at h1;omega
 have a:=congrArg (fun b:Bs=>zF b 0) c
 have e:zF (⟨#[40,42]⟩:Bs) 0=40:=by decide
 rw [e] at a
 rw [<- a]
 rw [pM (by omega),pM (by rw [ByteArray.size_extract,ByteArray.size_extract];have d:(⟨#[40,42]⟩:Bs).size=2:=rfl;omega)]
 simp [ByteArray.getElem_extract]
theorem q9p {s:Bs} (hb:xS (zF s 0)=false) (a:zF s 0≠40):cH s 0=.ok 0:=by
 have hr:yR xS s s.size 0=0:=by rw [xW,if_neg (by simp [hb])]
 unfold cH
 rw [z2d,hr,if_neg (fun h=>a (q9s h))]
theorem x8l (s:Bs):∃q,cH s s.size=.ok q/\s.size<=q:=by
 have hr:yR xS s s.size s.size=0:=by rw [xW,if_neg (by omega)]
 refine ⟨s.size,?_,Nat.le_refl _⟩
 unfold cH
 rw [z2d,hr,if_neg]
 ·rfl
 ·intro h
  have:=jS h
  have a:(⟨#[40,42]⟩:Bs).size=2:=rfl
  omega
theorem j0m {c:Nat} (h:qP c=true∨qX c=true):xS c=false/\c≠40/\yF c=false/\c≠126:=by
 simp only [qP,qX,baQ,decide_eq_true_eq] at h
 refine ⟨?_,by omega,?_,by omega⟩
 ·simp only [xS,Bool.or_eq_false_iff,decide_eq_false_iff_not];omega
 ·simp only [yF,Bool.and_eq_false_iff,decide_eq_false_iff_not];omega
def y5p (c:Nat):Int:=if qP c then 2 else 3
theorem q5r {s:Bs} (h:qP (zF s 0)=true∨qX (zF s 0)=true):yB s 0=kR s 0 (y5p (zF s 0)):=by
 obtain ⟨_,_,a,b⟩:=j0m h
 unfold yB y5p
 rw [if_neg (by simp [a,b])]
 by_cases O:qP (zF s 0)=true
 ·rw [if_pos O,if_pos O]
 ·rw [if_neg O,if_neg O,if_pos (h.resolve_left O)]
theorem gD {s:Bs} (f:s.size<=24) (b:0 < s.size) (h:qP (zF s 0)=true∨qX (zF s 0)=true) :
  vR s=if qH s 0=s.size then (if z1q s then 5 else y5p (zF s 0)) else 0:=by
 have hl:=y6j s 0 (by omega)
 obtain ⟨h1,d,_,_⟩:=j0m h
 have i:kR s 0 (y5p (zF s 0))=.ok ⟨if z1q (s.extract 0 (0+qH s 0)) then 5 else y5p (zF s 0),0,s.extract 0 (0+qH s 0),0⟩:=by
  unfold kR;rw [if_neg (by omega)]
 unfold vR
 rw [if_neg (by omega)]
 unfold aH
 rw [dY,q9p h1 d]
 simp only [if_pos b,q5r h,i]
 by_cases O:qH s 0=s.size
 ·have j:s.extract 0 (0+qH s 0)=s:=by rw [O,Nat.zero_add];simp
  rw [j,if_pos O]
  obtain ⟨q,hq,g⟩:=x8l s
  have:dY s s.size (0+s.size)=.ok []:=by
   rw [Nat.zero_add,show s.size=(s.size - 1)+1 by omega,dY,show s.size - 1+1=s.size by omega,hq]
   simp only [if_neg (show ¬q < s.size by omega)]
  rw [this]
  simp
 ·rw [if_neg O]
  have a:s.extract 0 (0+qH s 0)≠s:=fun e=>by
   have:=congrArg ByteArray.size e
   rw [ByteArray.size_extract] at this;omega
  cases dY s s.size (0+(s.extract 0 (0+qH s 0)).size) with
  | error c=>rfl
  | ok l=>
   cases l with
   | nil=>simp only [if_neg a]
   | cons k l=>rfl
theorem y6w {c:Nat} (h:qP c=true∨qX c=true):yQ c=true:=by
 unfold yQ;rcases h with h | h <;> simp [h]
theorem j1e {s:Bs} (a:0 < s.size) (h:qP (zF s 0)=true∨qX (zF s 0)=true):yR yQ s s.size 0=xN s:=by
 rw [xW,if_pos ⟨a,y6w h⟩];unfold xN;rw [Nat.zero_add];omega
theorem q4r {s:Bs} (b:0 < s.size) (h:qP (zF s 0)=true∨qX (zF s 0)=true) :
  qH s 0=s.size↔(xN s=s.size∨(zF s (xN s)=39/\xN s+1≠s.size/\xN s+1+yR yF s s.size (xN s+1)=s.size)):=by
 unfold qH
 rw [j1e b h,Nat.zero_add,Nat.zero_add]
 by_cases a:zF s (xN s)=39
 ·rw [if_pos a]
  have c:=tA (t:=s) (i:=xN s) (by omega)
  have hr:=kU yF s s.size (xN s+1) (by omega)
  split <;> omega
 ·rw [if_neg a];omega
theorem q3a {s:Bs} {lo f:Nat} (h:∀c,lo<=c->c<=f->qP c=true∨qX c=true) :
  z0w s lo f=true↔(0 < s.size/\s.size<=24/\lo<=zF s 0/\zF s 0<=f/\qH s 0=s.size):=by
 unfold z0w
 by_cases i:s.size < 1∨24 < s.size∨zF s 0 < lo∨f < zF s 0
 ·rw [if_pos i]
  refine ⟨fun g=>(by cases g),fun ⟨a,b,c,d,_⟩=>?_⟩
  omega
 ·rw [if_neg i]
  have hb:=h (zF s 0) (by omega) (by omega)
  rw [q4r (by omega) hb]
  by_cases h1:xN s=s.size
  ·rw [if_pos h1]
   exact ⟨fun _=>⟨by omega,by omega,by omega,by omega,.inl h1⟩,fun _=>rfl⟩
  ·rw [if_neg h1]
   by_cases e:zF s (xN s)≠39∨xN s+1=s.size
   ·rw [if_pos e]
    refine ⟨fun g=>(by cases g),fun ⟨_,_,_,_,g⟩=>?_⟩
    rcases g with g | ⟨g1,j,_⟩
    ·exact absurd g h1
    ·rcases e with e | e
     ·exact absurd g1 e
     ·exact absurd e j
   ·rw [if_neg e,decide_eq_true_eq]
    simp only [not_or,Decidable.not_not] at e
    exact ⟨fun g=>⟨by omega,by omega,by omega,by omega,.inr ⟨e.1,e.2,g⟩⟩,fun ⟨_,_,_,_,g⟩=>by rcases g with g | ⟨_,_,g⟩;exact absurd g h1;exact g⟩
theorem y5n (s:Bs):z1q s=gB wordsL s:=by
 unfold z1q wordsM
 have:∀l:List Bs,(yM (l.map (fun s=>(s,Value.int .i64 5))) s).isSome=gB l s:=by
  intro l
  induction l with
  | nil=>rfl
  | cons x l c=>
   simp only [List.map_cons,yM,z8o]
   by_cases a:s=x
   ·rw [if_pos a];simp [a]
   ·rw [if_neg a,c];have b:¬x=s:=fun e=>a e.symm
    simp [b]
 exact this wordsL
theorem q8p {s:Bs} (h:vR s=2∨vR s=3):s.size<=24:=by
 unfold vR at h
 by_cases a:24 < s.size
 ·rw [if_pos a] at h;omega
 ·omega
theorem x7x (s:Bs):z4b s=yP s:=by
 apply Bool.eq_iff_iff.2
 unfold z4b
 rw [baQ,q3a (fun c h1 a=>.inl (by simp [qP,h1,a])),<- y5n]
 constructor
 ·rintro ⟨⟨h1,a,e,f,g⟩,i⟩
  have O:qP (zF s 0)=true:=by simp [qP,e,f]
  simp only [yP,decide_eq_true_eq]
  rw [gD a h1 (.inl O),if_pos g,if_neg (by simpa using i),y5p,if_pos O]
 ·intro h
  have b:=wQ h
  obtain ⟨h1,a,_⟩:=z6j (.inl b)
  have d:=q8p (.inl b)
  have O:qP (zF s 0)=true:=by
   rcases a with ⟨_,a⟩ | ⟨a,_⟩
   ·exact a
   ·omega
  rw [gD d h1 (.inl O)] at b
  have hs':=O
  simp only [qP,baQ,decide_eq_true_eq] at hs'
  split at b
  ·rename_i hl
   refine ⟨⟨h1,d,hs'.1,hs'.2,hl⟩,?_⟩
   split at b
   ·cases b
   ·rename_i j;simpa using j
  ·cases b
theorem j5i {s:Bs} (h:z1q s=true):qP (zF s 0)=true:=by
 rw [y5n] at h
 have:=(hasB_mem (l:=wordsL)).1 h
 simp only [wordsL,List.mem_cons,List.not_mem_nil,or_false] at this
 rcases this with rfl | rfl | rfl | rfl | rfl | rfl | rfl | rfl | rfl | rfl | rfl | rfl | rfl | rfl | rfl <;> decide
theorem j6i (s:Bs):conR s=qB s:=by
 apply Bool.eq_iff_iff.2
 unfold conR
 rw [q3a (fun c h1 a=>.inr (by simp [qX,h1,a]))]
 have e:∀c,qX c=true->qP c=false:=fun c h=>by
  simp only [qX,baQ,decide_eq_true_eq] at h
  simp only [qP,Bool.and_eq_false_iff,decide_eq_false_iff_not];omega
 constructor
 ·rintro ⟨h1,a,f,i,j⟩
  have O:qX (zF s 0)=true:=by simp [qX,f,i]
  simp only [qB,decide_eq_true_eq]
  rw [gD a h1 (.inr O),if_pos j,if_neg (fun g=>by have:=j5i g;rw [e _ O] at this;cases this),y5p,if_neg (by rw [e _ O];decide)]
 ·intro h
  have d:=y3s h
  obtain ⟨h1,a,_⟩:=z6j (.inr d)
  have b:=q8p (.inr d)
  have O:qX (zF s 0)=true:=by
   rcases a with ⟨a,_⟩ | ⟨_,a⟩
   ·omega
   ·exact a
  rw [gD b h1 (.inr O)] at d
  have hs':=O
  simp only [qX,baQ,decide_eq_true_eq] at hs'
  split at d
  ·rename_i hl;exact ⟨h1,b,hs'.1,hs'.2,hl⟩
  ·cases d
mutual
theorem z9e:∀(e:Ex) (most:Nat),(xE e most<=most->jD e (most:Int)=(false,(most:Int) - (xE e most:Int)))/\(¬xE e most<=most->(jD e (most:Int)).1=true)
 | .mk k nm s args arms,most=>by
  simp only [xE,jD]
  by_cases f:most=0
  ·subst f
   rw [z2i (by omega),sN (by omega)]
   exact ⟨fun h=>by omega,fun _=>by rw [if_pos (by omega)]⟩
  ·rw [if_neg (by omega)]
   have h1:=meass_size args most 1 (by omega)
   have a:=sizeRs_le args most 1 (by omega) (by omega)
   rw [show ((most:Int) - 1)=(most:Int) - ((1:Nat):Int) by omega]
   by_cases O:sizeRs args most 1<=most
   ·rw [h1.1 O]
    exact measa_size arms most _ O
   ·rw [sN O]
    refine ⟨fun g=>absurd g O,fun _=>?_⟩
    have:=h1.2 O
    cases N:meass args ((most:Int) - ((1:Nat):Int)) with
    | mk b q=>rw [N] at this;simp only at this;subst this;rfl
theorem meass_size:∀(es:List Ex) (most n:Nat),n<=most->(sizeRs es most n<=most->meass es ((most:Int) - (n:Int))=(false,(most:Int) - (sizeRs es most n:Int)))/\(¬sizeRs es most n<=most->(meass es ((most:Int) - (n:Int))).1=true)
 | [],most,n,h=>⟨fun _=>rfl,fun g=>absurd h g⟩
 | e::es,most,n,h=>by
  simp only [sizeRs,meass,if_pos h]
  have h1:=z9e e (most - n)
  have hl:=mK e (most - n)
  rw [show ((most:Int) - (n:Int))=((most - n:Nat):Int) by omega]
  by_cases O:xE e (most - n)<=most - n
  ·rw [h1.1 O]
   have a:=meass_size es most (n+xE e (most - n)) (by omega)
   rw [show ((most:Int) - ((n+xE e (most - n):Nat):Int))=((most - n:Nat):Int) - (xE e (most - n):Int) by omega] at a
   exact a
  ·rw [z2i (by omega)]
   refine ⟨fun g=>by omega,fun _=>?_⟩
   have:=h1.2 O
   cases N:jD e ((most - n:Nat):Int) with
   | mk b q=>rw [N] at this;simp only at this;subst this;rfl
theorem measa_size:∀(es:List Arm) (most n:Nat),n<=most->(sizeAr es most n<=most->measa es ((most:Int) - (n:Int))=(false,(most:Int) - (sizeAr es most n:Int)))/\(¬sizeAr es most n<=most->(measa es ((most:Int) - (n:Int))).1=true)
 | [],most,n,h=>⟨fun _=>rfl,fun g=>absurd h g⟩
 | .mk c vs e::es,most,n,h=>by
  simp only [sizeAr,measa,if_pos h]
  by_cases d:16 < vs.length
  ·rw [if_pos d,if_pos d]
   exact ⟨fun g=>by omega,fun _=>rfl⟩
  rw [if_neg d,if_neg d]
  have h1:=z9e e (most - n)
  have hl:=mK e (most - n)
  rw [show ((most:Int) - (n:Int))=((most - n:Nat):Int) by omega]
  by_cases O:xE e (most - n)<=most - n
  ·rw [h1.1 O]
   have a:=measa_size es most (n+xE e (most - n)) (by omega)
   rw [show ((most:Int) - ((n+xE e (most - n):Nat):Int))=((most - n:Nat):Int) - (xE e (most - n):Int) by omega] at a
   exact a
  ·rw [sN (by omega)]
   refine ⟨fun g=>by omega,fun _=>?_⟩
   have:=h1.2 O
   cases N:jD e ((most - n:Nat):Int) with
   | mk b q=>rw [N] at this;simp only at this;subst this;rfl
end
theorem y0n:∀(fs:List Fun) (n:Nat),6000 < n->dS fs n=true
 | [],n,h=>by simpa [dS] using h
 | f::fs,n,h=>by
  simp only [dS,if_neg (show ¬n<=6000 by omega)]
  split
  ·rfl
  ·exact y0n fs n h
theorem q8w:∀(fs:List Fun) (n:Nat),n<=6000->dX fs ((6000:Int) - (n:Int))=dS fs n
 | [],n,h=>by simp only [dX,dS];exact (decide_eq_false (by omega)).symm
 | f::fs,n,h=>by
  simp only [dX,dS,if_pos h]
  have h1:=z9e f.body (6000 - n)
  have hl:=mK f.body (6000 - n)
  rw [show ((6000:Int) - (n:Int))=((6000 - n:Nat):Int) by omega]
  by_cases a:16 < f.params.length
  ·rw [if_pos a];simp [a]
  ·rw [if_neg a]
   by_cases O:xE f.body (6000 - n)<=6000 - n
   ·rw [h1.1 O]
    have b:=q8w fs (n+xE f.body (6000 - n)) (by omega)
    rw [show ((6000:Int) - ((n+xE f.body (6000 - n):Nat):Int))=((6000 - n:Nat):Int) - (xE f.body (6000 - n):Int) by omega] at b
    rw [b];simp [a]
   ·rw [y0n fs _ (by omega),h1.2 O];simp
theorem q8u (c:Core):sG c=xL c:=by
 unfold sG xL
 have:=q8w c.funs 0 (by omega)
 rw [<- this];rfl
theorem y0l {α:Type}:∀(a b:List (Bs×α)) (n:Bs),zK (a++b) n=match zK a n with | some v=>some v | none=>zK b n
 | [],b,n=>rfl
 | (k,x)::a,b,n=>by
  simp only [List.cons_append,zK]
  by_cases h:n=k
  ·rw [if_pos h,if_pos h]
  ·rw [if_neg h,if_neg h];exact y0l a b n
theorem z4n:∀(l:List Data) (n:Bs),zK (kM Data.name id l) n=vC l n
 | [],n=>rfl
 | d::l,n=>by
  simp only [kM,List.map_cons,zK,vC]
  by_cases h:n=d.name
  ·rw [if_pos h,if_pos h.symm];rfl
  ·rw [if_neg h,if_neg (fun e=>h e.symm)];exact z4n l n
theorem z4p (ds:List Data) (n:Bs):zK (kM Data.name id (truthsD::ds)) n=qQ ds n:=by
 have h:truthsD.name=kV:=rfl
 rw [z4n,vC,qQ,h]
 by_cases a:n=kV
 ·rw [if_pos a.symm,if_pos a]
 ·rw [if_neg (fun e=>a e.symm),if_neg a]
theorem y9v {β:Type} (f:Con->β):∀(l:List Con) (n:Bs),zK (kM Con.name f l) n=(oZ l n).map f
 | [],n=>rfl
 | x::l,n=>by
  simp only [kM,List.map_cons,zK,oZ]
  by_cases h:n=x.name
  ·rw [if_pos h,if_pos h.symm];rfl
  ·rw [if_neg h,if_neg (fun e=>h e.symm)];exact y9v f l n
theorem y0o:∀(l:List Data) (n:Bs),zK (z3w l) n=mR l n
 | [],n=>rfl
 | d::l,n=>by
  simp only [z3w,List.map_cons,List.flatten_cons,mR]
  rw [y0l,y9v]
  cases oZ d.cons n with
  | some x=>rfl
  | none=>exact y0o l n
theorem q8f:∀(l:List Param) (n:Bs),zK (kM Param.name Param.type l) n=z8s l n
 | [],n=>rfl
 | d::l,n=>by
  simp only [kM,List.map_cons,zK,z8s]
  by_cases h:n=d.name
  ·rw [if_pos h,if_pos h.symm]
  ·rw [if_neg h,if_neg (fun e=>h e.symm)];exact q8f l n
theorem q0s:∀(l:List Fun) (n:Bs) (k:Nat),(match sC l n k with | some j=>k<=j/\l[j - k]? = zK (kM Fun.name id l) n/\j - k < l.length | none=>zK (kM Fun.name id l) n=none)
 | [],n,k=>rfl
 | f::l,n,k=>by
  simp only [kM,List.map_cons,zK,sC]
  by_cases h:n=f.name
  ·rw [if_pos h,if_pos h.symm]
   simp
  ·rw [if_neg h,if_neg (fun e=>h e.symm)]
   have a:=q0s l n (k+1)
   cases b:sC l n (k+1) with
   | none=>rw [b] at a;exact a
   | some j=>
    rw [b] at a
    simp only at a ⊢
    obtain ⟨h1,c,d⟩:=a
    refine ⟨by omega,?_,by simp only [lcQ];omega⟩
    rw [show j - k=(j - (k+1))+1 by omega,List.getElem?_cons_succ];exact c
theorem q0r (l:List Fun) (n:Bs):(match nE l n with | some j=>l[j]? | none=>none)=zK (kM Fun.name id l) n:=by
 have:=q0s l n 0
 unfold nE
 cases a:sC l n 0 with
 | none=>rw [a] at this;exact this.symm
 | some j=>rw [a] at this;exact this.2.1
theorem j7x (dn:Bs):∀{l:List Con} {m:List (Bs×Maker)},(∀x∈l,qB x.name=true/\zK m x.name=none)->(l.map Con.name).Nodup->(xZ dn true m l).1=true
 | [],m,_,_=>rfl
 | x::l,m,h,a=>by
  have b:=h x msQ
  simp only [xZ,b.1,Bool.and_self,if_true,b.2,Option.isNone_none,aD b.2]
  simp only [List.map_cons,List.nodup_cons] at a
  refine j7x dn (fun y c=>⟨(h y (mcQ _ c)).1,?_⟩) a.2
  rw [dC (h y (mcQ _ c)).2]
  exact lget_single.2 (fun e=>a.1 (by rw [<- e];exact List.mem_map_of_mem c))
theorem j8a:∀{l:List Param} {m:List (Bs×Bs)},(∀f∈l,yP f.name=true/\zK m f.name=none)->(l.map Param.name).Nodup->(uC true m l).1=true
 | [],m,_,_=>rfl
 | x::l,m,h,a=>by
  have b:=h x msQ
  simp only [uC,b.1,Bool.and_self,if_true,b.2,Option.isNone_none,aD b.2]
  simp only [List.map_cons,List.nodup_cons] at a
  refine j8a (fun y c=>⟨(h y (mcQ _ c)).1,?_⟩) a.2
  rw [dC (h y (mcQ _ c)).2]
  exact lget_single.2 (fun e=>a.1 (by rw [<- e];exact List.mem_map_of_mem c))
theorem j9p {β α:Type} {key:β->Bs} {val:β->α} {l:List β} {n:Bs} (h:n∉l.map key):zK (kM key val l) n=none:=by
 cases a:zK (kM key val l) n with
 | none=>rfl
 | some v=>obtain ⟨x,b,e,_⟩:=vM a;exact absurd (e▸List.mem_map_of_mem b) h
theorem j7y:∀{l:List Data} {ds:List (Bs×Data)} {m:List (Bs×Maker)},
  (∀d∈l,qB d.name=true/\d.name≠yT/\zK ds d.name=none/\0 < d.cons.length/\∀x∈d.cons,qB x.name=true/\zK m x.name=none)->(l.map Data.name).Nodup ->
  ((l.map fun d=>d.cons.map Con.name).flatten).Nodup->(uA true ds m l).1=true
 | [],ds,m,_,_,_=>rfl
 | d::l,ds,m,h,a,k=>by
  obtain ⟨h1,g,i,p,q⟩:=h d msQ
  simp only [List.map_cons,List.nodup_cons] at a
  simp only [List.map_cons,List.flatten_cons] at k
  have hc':=qI k
  have b:aG true ds d=true:=by simp [aG,h1,g,i,p]
  have r:pV true ds d=ds++[(d.name,d)]:=by
   unfold pV
   rw [if_pos (by simp [h1,g])]
   exact aD i
  simp only [uA,b,r]
  have j:=j7x d.name q hc'.1
  obtain ⟨_,o,_,_⟩:=z2l d.name j
  rw [j,o]
  refine j7y (fun e J=>?_) a.2 hc'.2.1
  obtain ⟨s,t,u,v,n⟩:=h e (mcQ _ J)
  refine ⟨s,t,?_,v,fun x c=>⟨(n x c).1,?_⟩⟩
  ·rw [dC u]
   exact lget_single.2 (fun e'=>a.1 (by rw [<- e'];exact List.mem_map_of_mem J))
  ·rw [dC (n x c).2]
   refine j9p (fun N=>hc'.2.2 _ N ?_)
   exact List.mem_flatten.2 ⟨_,List.mem_map_of_mem (f:=fun d:Data=>d.cons.map Con.name) J,List.mem_map_of_mem c⟩
structure Tabled (c:Core):Prop where
 dN:∀d∈c.datas,qB d.name=true/\d.name≠yT/\d.name≠kV/\0 < d.cons.length/\∀x∈d.cons,qB x.name=true/\x.name≠y7o/\x.name≠j0j
 dU:(c.datas.map Data.name).Nodup
 cU:((c.datas.map fun d=>d.cons.map Con.name).flatten).Nodup
 fN:∀f∈c.funs,yP f.name=true
 fU:(c.funs.map Fun.name).Nodup
 iN:∀p∈c.inputs,yP p.name=true
 iU:(c.inputs.map Param.name).Nodup
theorem z0l:truthsD.cons.map Con.name=[y7o,j0j]:=rfl
theorem z9n {c:Core} (h:Tabled c):nM c=true:=by
 unfold nM isP
 have a:(dsP c).1=true:=by
  unfold dsP
  refine j7y (fun d a=>?_) ?_ ?_
  ·rcases List.mem_cons.1 a with rfl | a
   ·refine ⟨by decide,by decide,rfl,by decide,fun x g=>⟨?_,rfl⟩⟩
    simp only [truthsD,List.mem_cons,List.not_mem_nil,or_false] at g
    rcases g with rfl | rfl <;> decide
   ·obtain ⟨h1,k,s,l,o⟩:=h.dN d a
    exact ⟨h1,k,rfl,l,fun x g=>⟨(o x g).1,rfl⟩⟩
  ·simp only [List.map_cons,List.nodup_cons]
   refine ⟨fun N=>?_,h.dU⟩
   obtain ⟨d,a,e⟩:=List.mem_map.1 N
   exact (h.dN d a).2.2.1 e
  ·simp only [List.map_cons,List.flatten_cons]
   rw [List.nodup_append]
   refine ⟨by rw [z0l];decide,h.cU,fun n b m N e=>?_⟩
   subst e
   obtain ⟨ns,j,g⟩:=List.mem_flatten.1 N
   obtain ⟨d,a,rfl⟩:=List.mem_map.1 j
   obtain ⟨y,r,rfl⟩:=List.mem_map.1 g
   have:=((h.dN d a).2.2.2.2 y r).2
   rw [z0l] at b
   simp only [List.mem_cons,List.not_mem_nil,or_false] at b
   rcases b with b | b
   ·exact this.1 b
   ·exact this.2 b
 have i:(fsP c).1=true:=by unfold fsP;rw [a];exact j7z (fun f i=>⟨h.fN f i,rfl⟩) h.fU
 rw [i]
 exact j8a (fun p q=>⟨h.iN p q,rfl⟩) h.iU
theorem j0t:∀{l:List Data} {ok:Bool} {ds:List (Bs×Data)} {m:List (Bs×Maker)},(uA ok ds m l).1=true->∀d∈l,0 < d.cons.length
 | [],_,_,_,_,_,a=>by cases a
 | e::l,ok,ds,m,h,d,a=>by
  simp only [uA] at h
  rcases List.mem_cons.1 a with rfl | a
  ·have g1:=(z2l _ (z7j h).1).1
   simp only [aG,baQ,decide_eq_true_eq] at g1
   exact g1.2
  ·exact j0t h d a
theorem z0j {c:Core} (h:nM c=true):Tabled c/\(yJ c).datas=kM Data.name id (truthsD::c.datas)/\(yJ c).cons=z3w (truthsD::c.datas)/\(yJ c).funs=kM Fun.name id c.funs/\(yJ c).inputs=kM Param.name Param.type c.inputs:=by
 obtain ⟨s,i2,i3,i4⟩:=z2n (show (uC (fsP c).1 [] c.inputs).1=true from h)
 obtain ⟨l,m,n,o⟩:=z2m (show (uB (dsP c).1 [] c.funs).1=true from s)
 have k:=(show (uA true [] [] (truthsD::c.datas)).1=true from l)
 obtain ⟨_,d2,d3,d4,i,j⟩:=z7j k
 have a:=j0t k
 simp only [List.map_cons,List.nodup_cons] at i
 simp only [List.map_cons,List.flatten_cons] at j
 have d6':=qI j
 refine ⟨{ dN:=fun d b=>?_,dU:=i.2,cU:=d6'.2.1,fN:=fun f q=>(n f q).1,fU:=o,iN:=fun p r=>(i3 p r).1,iU:=i4 },d2,d3,m,i2⟩
 obtain ⟨t,u,_,_,v⟩:=d4 d (mcQ _ b)
 have g:∀x∈d.cons,x.name∉[y7o,j0j]:=fun x g N=>d6'.2.2 x.name (by rw [z0l];exact N)
  (List.mem_flatten.2 ⟨_,List.mem_map_of_mem (f:=fun d:Data=>d.cons.map Con.name) b,List.mem_map_of_mem g⟩)
 refine ⟨t,u,fun e=>i.1 (by rw [show truthsD.name=d.name from e.symm];exact List.mem_map_of_mem b),a d (mcQ _ b),fun x N=>⟨(v x N).1,fun e=>?_,fun e=>?_⟩⟩
 ·exact g x N (by rw [e];simp)
 ·exact g x N (by rw [e];simp)
theorem y9x (ds:List Data):∀{l:List Con} {seen:List Bs},z0t ds l seen=true↔(∀x∈l,qB x.name=true/\x.name∉seen/\x.fields.all (jY ds)=true)/\(l.map Con.name).Nodup
 | [],seen=>by simp [z0t]
 | x::l,seen=>by
  simp only [z0t,baQ,y9x ds (l:=l),j6i,Bool.not_eq_true',List.map_cons,List.nodup_cons,List.mem_cons]
  have O:gB seen x.name=false↔x.name∉seen:=by rw [<- hasB_mem (l:=seen)];simp
  rw [O]
  constructor
  ·rintro ⟨⟨⟨h1,f⟩,h⟩,i,j⟩
   refine ⟨fun y d=>?_,fun N=>?_,j⟩
   ·rcases d with rfl | d
    ·exact ⟨h1,f,h⟩
    ·obtain ⟨a,b,c⟩:=i y d
     exact ⟨a,fun g=>b (by simp [g]),c⟩
   ·obtain ⟨y,d,e⟩:=List.mem_map.1 N
    exact (i y d).2.1 (by simp [e])
  ·rintro ⟨h1,f,h⟩
   obtain ⟨a,b,c⟩:=h1 x (.inl rfl)
   refine ⟨⟨⟨a,b⟩,c⟩,fun y d=>?_,h⟩
   obtain ⟨a',b',c'⟩:=h1 y (.inr d)
   refine ⟨a',fun g=>?_,c'⟩
   rcases List.mem_append.1 g with g | g
   ·exact b' g
   ·simp only [List.mem_cons,List.not_mem_nil,or_false] at g
    exact f (by rw [<- g];exact List.mem_map_of_mem d)
theorem z4q (ds:List Data):∀{l:List Data} {names cons:List Bs},cL ds l names cons=true ↔
  (∀d∈l,qB d.name=true/\d.name∉names/\0 < d.cons.length/\∀x∈d.cons,qB x.name=true/\x.name∉cons/\x.fields.all (jY ds)=true)/\(l.map Data.name).Nodup/\((l.map fun d=>d.cons.map Con.name).flatten).Nodup
 | [],names,cons=>by simp [cL]
 | d::l,names,cons=>by
  simp only [cL,baQ,z4q ds (l:=l),y9x,j6i,Bool.not_eq_true',List.map_cons,List.nodup_cons,List.mem_cons,List.flatten_cons,decide_eq_true_eq]
  have O:gB names d.name=false↔d.name∉names:=by rw [<- hasB_mem (l:=names)];simp
  rw [O,List.nodup_append]
  constructor
  ·rintro ⟨⟨⟨⟨h1,j⟩,r⟩,o,p⟩,i,s,t⟩
   refine ⟨fun e J=>?_,⟨fun N=>?_,s⟩,p,t,fun n u m N e=>?_⟩
   ·rcases J with rfl | J
    ·exact ⟨h1,j,by omega,o⟩
    ·obtain ⟨a,b,c,k⟩:=i e J
     exact ⟨a,fun g=>b (by simp [g]),c,fun x h=>⟨(k x h).1,fun g=>(k x h).2.1 (by simp [g]),(k x h).2.2⟩⟩
   ·obtain ⟨e,J,ee⟩:=List.mem_map.1 N
    exact (i e J).2.1 (by simp [ee])
   ·subst e
    obtain ⟨ns,q,h⟩:=List.mem_flatten.1 N
    obtain ⟨e,J,rfl⟩:=List.mem_map.1 q
    obtain ⟨y,v,rfl⟩:=List.mem_map.1 h
    exact ((i e J).2.2.2 y v).2.1 (List.mem_append.2 (.inr u))
  ·rintro ⟨h1,⟨j,r⟩,o,p,i⟩
   obtain ⟨a,b,c,k⟩:=h1 d (.inl rfl)
   refine ⟨⟨⟨⟨a,b⟩,by omega⟩,k,o⟩,fun e J=>?_,r,p⟩
   obtain ⟨a',b',c',k'⟩:=h1 e (.inr J)
   refine ⟨a',fun g=>?_,c',fun x h=>⟨(k' x h).1,fun g=>?_,(k' x h).2.2⟩⟩
   ·rcases List.mem_append.1 g with g | g
    ·exact b' g
    ·simp only [List.mem_cons,List.not_mem_nil,or_false] at g
     exact j (by rw [<- g];exact List.mem_map_of_mem J)
   ·rcases List.mem_append.1 g with g | g
    ·exact (k' x h).2.1 g
    ·exact i _ g _ (List.mem_flatten.2 ⟨_,List.mem_map_of_mem (f:=fun d:Data=>d.cons.map Con.name) J,List.mem_map_of_mem h⟩) rfl
def z5e (e:Ex):Prop:=∃l:Int,l<=6000/\(jD e l).1=false
theorem q1n:∀{es:List Ex} {l:Int},l<=6000->(meass es l).1=false->∀x∈es,z5e x
 | [],l,_,_=>by simp
 | e::es,l,c,h=>by
  simp only [meass] at h
  cases N:jD e l with
  | mk b q=>
   rw [N] at h
   cases b with
   | true=>cases h
   | false=>
    have h1:=wI e l (by rw [N])
    rw [N] at h1
    intro x a
    rcases List.mem_cons.1 a with rfl | a
    ·exact ⟨l,c,by rw [N]⟩
    ·exact q1n (l:=q) (by simp only at h1;omega) h x a
theorem q1m:∀{es:List Arm} {l:Int},l<=6000->(measa es l).1=false->∀a∈es,z5e a.body
 | [],l,_,_=>by simp
 | .mk c vs e::es,l,f,h=>by
  simp only [measa] at h
  split at h
  ·cases h
  ·cases N:jD e l with
   | mk b q=>
    rw [N] at h
    cases b with
    | true=>cases h
    | false=>
     have h1:=wI e l (by rw [N])
     rw [N] at h1
     intro a d
     rcases List.mem_cons.1 d with rfl | d
     ·exact ⟨l,f,by simp only [Arm.body];rw [N]⟩
     ·exact q1m (l:=q) (by simp only at h1;omega) h a d
theorem y6g {e:Ex} (h:z5e e):(∀x∈e.args,z5e x)/\∀a∈e.arms,z5e a.body:=by
 obtain ⟨l,d,h⟩:=h
 cases e with
 | mk k n s args arms=>
  simp only [jD] at h
  split at h
  ·cases h
  ·rename_i hl
   cases N:meass args (l - 1) with
   | mk b q=>
    rw [N] at h
    cases b with
    | true=>cases h
    | false=>
     have c:=meass_le args (l - 1) (by rw [N]) (by omega)
     rw [N] at c
     exact ⟨q1n (l:=l - 1) (es:=args) (by omega) (by rw [N]),q1m (es:=arms) (l:=q) (by simp only at c;omega) h⟩
theorem wC {f:Bs} {e:Ex} (h:z5e e):(qY f e).length<=6000:=by
 obtain ⟨l,a,h⟩:=h
 have h1:=z2j (f:=f) e l h
 have b:=wI e l h
 omega
theorem z1k (f:Bs) (e:Ex):(wY f e).length<=(qY f e).length:=aC _
def okF (c:Core) (e:Ex):Prop:=okR (yJ c) e/\wU e/\z5e e
section
variable {c:Core} {e:Ex} {f s:Bs}
theorem kS (h:okF c e) {x:Ex} (a:x∈e.args):okF c x:=⟨okRs_iff.1 ((nB e).1 h.1).2.2.2.1 x a,((kZ e).1 h.2.1).2.2.1 x a,(y6g h.2.2).1 x a⟩
theorem okF_arm (h:okF c e) {a:Arm} (b:a∈e.arms):okF c a.body:=⟨okRa_iff.1 ((nB e).1 h.1).2.2.2.2 a b,(((kZ e).1 h.2.1).2.2.2 a b).2.2.2,(y6g h.2.2).2 a b⟩
theorem q9h (h:okF c e) (a:¬e.kind=7):e.arms=[]:=((nB e).1 h.1).1 a
theorem okF_let (h:okF c e) (a:e.kind=6):0 < e.args.length:=List.length_pos_iff.2 (((nB e).1 h.1).2.2.1 a)
theorem fun_at {g:Fun} (a:zK (yJ c).funs s=some g) (d:Right c):∃j,nE c.funs s=some j/\c.funs[j]? = some g:=by
 rw [d.funs,<- q0r] at a
 cases b:nE c.funs s with
 | none=>rw [b] at a;cases a
 | some j=>rw [b] at a;exact ⟨j,rfl,a⟩
theorem y4r:∀{l:List Fun} {n:Bs} {i j:Nat},sC l n i=some j->∃g,l[j - i]? = some g/\g.name=n/\i<=j
 | [],_,_,_,h=>by cases h
 | g::l,n,i,j,h=>by
  simp only [sC] at h
  split at h
  ·rename_i b
   cases h
   exact ⟨g,by simp,b,Nat.le_refl _⟩
  ·obtain ⟨q,h1,a,c⟩:=y4r h
   exact ⟨q,by rw [show j - i=(j - (i+1))+1 by omega,List.getElem?_cons_succ];exact h1,a,by omega⟩
theorem x8g (h:okF c e) (l:e.kind=5) (b:Right c) (m:TidyC c):∃j g,nE c.funs e.name=some j/\c.funs[j]? = some g/\(zK (yC c) e.name).getD []=g.params/\g.name=e.name/\e.args.length<=g.params.length/\g.name.size<=1000/\∀p∈g.params,p.name.size<=1000:=by
 obtain ⟨g,d,hl⟩:=((nB e).1 h.1).2.1 l
 obtain ⟨j,f,a⟩:=fun_at d b
 obtain ⟨q,h1,k,_⟩:=y4r f
 rw [Nat.sub_zero,a] at h1
 cases h1
 have i:=m.fn g (mgQ a)
 exact ⟨j,g,f,a,by rw [q5a b d];rfl,k,hl,i.1,i.2.1⟩
theorem x0a {j:Nat} (h:nE c.funs s=some j):mZ c.funs s=((j:Nat):Int):=by unfold mZ;rw [h]
end
def RNat (_:Fz) (cs:List Value) (x:Nat):Prop:=cs=[.int .i64 x]
theorem RNat.mono (Φ Ψ:Fz) (c:List Value) (x:Nat) (_:Φ.Le Ψ) (h:RNat Φ c x):RNat Ψ c x:=h
def nats (l:List Nat):List Value:=l.map fun n=>.int .i64 ((n:Nat):Int)
theorem sH (l:List Nat):(nats l).length=l.length:=by simp [nats]
theorem z3j (l:List Nat) (x:Nat):nats l++[.int .i64 x]=nats (l++[x]):=by simp [nats]
theorem chunks_nat {Φ:Fz}:∀{l:List Nat} {cs:List Value},Chunks (RNat Φ) 1 cs l↔cs=nats l
 | [],cs=>Iff.rfl
 | x::l,cs=>by
  constructor
  ·rintro ⟨a,b,rfl,h1,c,d⟩
   rw [chunks_nat.1 d];cases c;rfl
  ·rintro rfl
   exact ⟨_,_,rfl,rfl,rfl,chunks_nat.2 rfl⟩
theorem SliceOf.nats {Φ:Fz} {v:Value} {l:List Nat}:SliceOf RNat Φ 1 v l↔Row Φ v 1 (nats l) :=
 ⟨fun ⟨_,h1,a⟩=>chunks_nat.1 a▸h1,fun h=>⟨_,h,chunks_nat.2 rfl⟩⟩
structure GrD where
 nodes:List Bs
 fr:List Nat
 to:List Nat
def RGr (Φ:Fz) (cs:List Value) (g:GrD):Prop:=∃v0 a v2,cs=[v0,a,v2]/\SliceOf RStr Φ 1 v0 g.nodes/\SliceOf RNat Φ 1 a g.fr/\SliceOf RNat Φ 1 v2 g.to
theorem RGr.mono (Φ Ψ:Fz) (c:List Value) (g:GrD) (hl:Φ.Le Ψ) (h:RGr Φ c g):RGr Ψ c g :=
 let ⟨v0,e,v2,a,h1,b,d⟩:=h
 ⟨v0,e,v2,a,h1.mono RStr.mono hl,b.mono RNat.mono hl,d.mono RNat.mono hl⟩
def qW (c:Core):GrD:=⟨zG c,(zY c).map fun f=>yW (zG c) f.1,(zY c).map fun f=>yW (zG c) f.2⟩
theorem q4b (c:Core):(qW c).fr.zip (qW c).to=dO (zG c) (zY c):=by
 simp only [qW,dO,List.zip_map',List.map_map]
theorem y0v {c:Core} {i:Nat} {p:Param} (h:c.inputs[i]? = some p):(zG c)[i]? = some (inN p.name):=by
 have a:=(List.getElem?_eq_some_iff.1 h).1
 rw [zG,List.append_assoc,List.getElem?_append_left (by rw [List.length_map];exact a),List.getElem?_map,h];rfl
instance:AgT 86:=⟨Tryz.isAgg86⟩
instance:SzT 86 3:=⟨Tryz.sizeOf86⟩
instance:SlT 90 4:=⟨Tryz.runUnderlying90⟩
instance:ZeT 86 [.slice none 0 0,.slice none 0 0,.slice none 0 0]:=⟨_,Tryz.zeroValue86,rfl⟩
instance:BzT 86 [.slice none 0 0,.slice none 0 0,.slice none 0 0] [0,1,2]:=⟨trivial⟩
instance:MonoF RNat:=⟨RNat.mono⟩
section
variable {Φ:Fz} {K:List Res} {w:World}
theorem y9d {l:List Bs} {v:Value} {d1:List Value} {e:Ex} (k1:REx Φ d1 e) (hb:l.length+(zN e).length<=8796093000000) (ih:∀x:Ex,x.sz < e.sz->∀{Φ:Fz} {K:List Res} {w:World} {d:List Value} {v:Value} {l:List Bs},l.length+(zN x).length<=8796093000000->REx Φ d x->Mem Φ (.gs v 9 1 (strs l)::K) w->Calls prog 111 #[v,.agg d.toArray] w (fun ee w'=>∃v,ee=.returned v/\Mem Φ (.gs v 9 1 (strs (l++zN x))::K) w')) (N:Mem Φ (.gs v 9 1 (strs l)::K) w) :
  Calls prog 111 #[v,.agg d1.toArray] w (fun ee w'=>∃v,ee=.returned v/\Mem Φ (.gs v 9 1 (strs (l++zN e))::K) w'):=by
 obtain ⟨W,c4,p9,t,rfl,M1,h2,h8,F2,i0,S1,G⟩:=REx.fm k1
 refine zL func111 ntmps111 fun Q hQ a J=>?_
 refine Bx fun f w N a J=>?_
 by_cases A2:e.kind=6
 refine jQ fun V w N a J=>?_
 refine vH 2 xP (fun v20 w N a J=>?_) (hb:=by simp [zR];omega)
 first | rw [qC] at N | rw [<- yK] at N
 refine go fun a J=>?_
 refine jR (fun mm a w=>∃(i:Nat) (u:Value) (m:List Bs),mm=e.args.length - i/\EnvR 53 [(0,u),(3,.pointer (some ⟨f,0,none⟩)),(5,.int .i64 i)] [] a/\Mem Φ (.gs (V) 9 1 [.string e.name]::.blk f (ob [.int .i64 (e.kind),.int .i64 (e.num),.string e.name,.slice W e.args.length c4,.slice p9 e.arms.length t] 110)::.gs (u) 9 1 (strs m)::K) w/\(l++zN e=m++bindPs (e.args.drop i)++bindPa e.arms)) (e.args.length - 0) ⟨0,v20,(l++[e.name]),rfl,J.pk,N,by rw [wL];simp [*]⟩ ?_
 clear N J
 rintro mm a w ⟨i,u,m,q,J,N,z⟩ q2 f0
 by_cases d0:i < e.args.length
 refine go fun a J=>?_
 obtain ⟨M2,rfl,n1,s,y1,P1,K1,H⟩:=h2.el i0 d0
 obtain ⟨G2,t2,H2,v2,rfl,N1,B2,C2,T1,Z1,U1,a2⟩:=REx.fm H
 refine go fun a J=>?_
 replace N:=N.pl 2
 refine st J rfl rfl rfl (jH J rfl call111 (ih _ (by first | exact Ex.lt_args (mgQ s) | exact Ex.lt_arms (mgQ s)) (l:=m) (by have hq:=congrArg List.length z;rw [zA s] at hq;simp only [bindPs,qE,laQ] at hq hb ⊢;omega) H N) fun l1 w N a J=>?_)
 replace N:=N.nf
 refine go fun a J=>?_
 replace N:=N.ar [] [2,2]
 refine f0 _ _ _ (by subst q;omega) ⟨(i+1),(l1),((m++zN n1)),rfl,J.pk,N,?_⟩
 rw [z,zA s];simp [bindPs]
 refine go fun a J=>?_
 refine jR (fun mm a w=>∃(j:Nat) (U:Value) (m2:List Bs),mm=e.arms.length - j/\EnvR 53 [(0,U),(3,.pointer (some ⟨f,0,none⟩)),(6,.int .i64 j)] [] a/\Mem Φ (.gs (V) 9 1 [.string e.name]::.blk f (ob [.int .i64 (e.kind),.int .i64 (e.num),.string e.name,.slice W e.args.length c4,.slice p9 e.arms.length t] 110)::.gs (U) 9 1 (strs m2)::K) w/\(l++zN e=m2++bindPa (e.arms.drop j))) (e.arms.length - 0) ⟨0,u,m,rfl,J.pk,N,by rw [z,zB d0];simp [bindPs]⟩ ?_
 clear N J
 rintro mm a w ⟨j,U,m2,q,J,N,r⟩ r2 g0
 by_cases L:j < e.arms.length
 refine go fun a J=>?_
 obtain ⟨j1,rfl,o1,I,z1,Q1,L1,j0⟩:=h8.el G L
 obtain ⟨N2,s2,rfl,e0,C0⟩:=RArm.iff.1 j0
 obtain ⟨I2,w2,rfl,V1,b2⟩:=e0.fm
 obtain ⟨J2,x2,K2,y2,rfl,O1,D2,E2,W1,c2,X1,d2⟩:=REx.fm C0
 refine vH 2 xP (fun m1 w N a J=>?_) (hr:=(SliceOf.strs.1 e0).rowIn N.toSees) (h1:=oL _) (hb:=by have hq:=congrArg List.length r;rw [zA I,qE] at hq;simp only [laQ,zR] at hq hb ⊢;omega)
 first | rw [qC] at N | rw [<- yK] at N
 refine go fun a J=>?_
 obtain ⟨g,h⟩:=yG L
 obtain ⟨A1,R1,h0,k0⟩:=h8.elem h
 obtain ⟨O2,r1,rfl,D0,C⟩:=RArm.iff.1 k0
 obtain ⟨L2,z2,rfl,Y1,e2⟩:=D0.fm
 obtain ⟨l0,X,m0,Y,rfl,G0,B1,C1,N0,X0,O0,Y0⟩:=REx.fm C
 refine Qq (fun a J=>?_) (o:=by exact fun J O=>vL 2 (vs:=[.int .i64 (g.body.kind),.int .i64 (g.body.num),.string g.body.name,.slice l0 g.body.args.length X,.slice m0 g.body.arms.length Y]) J O rfl h0 isAgg110 sizeOf110 rfl rfl)
 replace N:Mem Φ (.gs (V) 9 1 [.string e.name]::.blk f (ob [.int .i64 (e.kind),.int .i64 (e.num),.string e.name,.slice W e.args.length c4,.slice (some j1) e.arms.length t] 110)::.gs (m1) 9 1 (strs (m2++g.vars))::K) w:=by rw [show g=o1 from Option.some.inj (h.symm.trans I)];exact N
 replace N:=N.pl 2
 refine st J rfl rfl rfl (jH J rfl call111 (ih _ (by first | exact Ex.lt_args (mgQ h) | exact Ex.lt_arms (mgQ h)) (l:=m2++g.vars) (by have hq:=congrArg List.length r;rw [zA h] at hq;simp only [bindPs,qE,laQ] at hq hb ⊢;omega) C N) fun q0 w N a J=>?_)
 replace N:=N.nf
 refine go fun a J=>?_
 replace N:=N.ar [] [2,2]
 refine g0 _ _ _ (by subst q;omega) ⟨(j+1),(q0),((m2++g.vars++zN g.body)),rfl,J.pk,N,?_⟩
 rw [r,zA h,qE];simp
 refine zC ?_
 replace N:=N.dl [1,0]
 refine ⟨_,rfl,?_⟩
 rw [show (strs (l++zN e))=(strs m2) by rw [r,zB L];simp [bindPa]];exact N
 refine go fun a J=>?_
 refine jR (fun mm a w=>∃(i:Nat) (u:Value) (m:List Bs),mm=e.args.length - i/\EnvR 53 [(0,u),(3,.pointer (some ⟨f,0,none⟩)),(5,.int .i64 i)] [] a/\Mem Φ (.blk f (ob [.int .i64 (e.kind),.int .i64 (e.num),.string e.name,.slice W e.args.length c4,.slice p9 e.arms.length t] 110)::.gs (u) 9 1 (strs m)::K) w/\(l++zN e=m++bindPs (e.args.drop i)++bindPa e.arms)) (e.args.length - 0) ⟨0,v,l,rfl,J.pk,N,by rw [wL];simp [*]⟩ ?_
 clear N J
 rintro mm a w ⟨i,u,m,q,J,N,p⟩ p1 M
 by_cases D:i < e.args.length
 refine go fun a J=>?_
 obtain ⟨n2,rfl,t0,n,z0,K0,E0,A⟩:=h2.el i0 D
 obtain ⟨f2,c135,g2,u1,rfl,H0,D1,E1,P0,Z0,Q0,a1⟩:=REx.fm A
 refine go fun a J=>?_
 replace N:=N.pl 1
 refine st J rfl rfl rfl (jH J rfl call111 (ih _ (by first | exact Ex.lt_args (mgQ n) | exact Ex.lt_arms (mgQ n)) (l:=m) (by have hq:=congrArg List.length p;rw [zA n] at hq;simp only [bindPs,qE,laQ] at hq hb ⊢;omega) A N) fun v145 w N a J=>?_)
 replace N:=N.nf
 refine go fun a J=>?_
 replace N:=N.pl 1
 refine M _ _ _ (by subst q;omega) ⟨(i+1),(v145),((m++zN t0)),rfl,J.pk,N,?_⟩
 rw [p,zA n];simp [bindPs]
 refine go fun a J=>?_
 refine jR (fun mm a w=>∃(j:Nat) (U:Value) (m2:List Bs),mm=e.arms.length - j/\EnvR 53 [(0,U),(3,.pointer (some ⟨f,0,none⟩)),(6,.int .i64 j)] [] a/\Mem Φ (.blk f (ob [.int .i64 (e.kind),.int .i64 (e.num),.string e.name,.slice W e.args.length c4,.slice p9 e.arms.length t] 110)::.gs (U) 9 1 (strs m2)::K) w/\(l++zN e=m2++bindPa (e.arms.drop j))) (e.arms.length - 0) ⟨0,u,m,rfl,J.pk,N,by rw [p,zB D];simp [bindPs]⟩ ?_
 clear N J
 rintro mm a w ⟨j,U,m2,q,J,N,k⟩ q1 P
 by_cases y:j < e.arms.length
 refine go fun a J=>?_
 obtain ⟨p0,rfl,u0,B,A0,L0,F0,S⟩:=h8.el G y
 obtain ⟨o2,s1,rfl,E,b0⟩:=RArm.iff.1 S
 obtain ⟨i2,v1,rfl,R0,b1⟩:=E.fm
 obtain ⟨j2,c173,k2,w1,rfl,I0,F1,G1,S0,c1,T0,e1⟩:=REx.fm b0
 refine vH 1 xP (fun r0 w N a J=>?_) (hr:=(SliceOf.strs.1 E).rowIn N.toSees) (h1:=oL _) (hb:=by have hq:=congrArg List.length k;rw [zA B,qE] at hq;simp only [laQ,zR] at hq hb ⊢;omega)
 first | rw [qC] at N | rw [<- yK] at N
 refine go fun a J=>?_
 obtain ⟨b,c⟩:=yG y
 obtain ⟨B0,M0,R,T⟩:=h8.elem c
 obtain ⟨p2,t1,rfl,c0,F⟩:=RArm.iff.1 T
 obtain ⟨l2,x1,rfl,U0,f1⟩:=c0.fm
 obtain ⟨n0,Z,o0,a0,rfl,J0,H1,J1,V0,g1,W0,i1⟩:=REx.fm F
 refine Qq (fun a J=>?_) (o:=by exact fun J O=>vL 2 (vs:=[.int .i64 (b.body.kind),.int .i64 (b.body.num),.string b.body.name,.slice n0 b.body.args.length Z,.slice o0 b.body.arms.length a0]) J O rfl R isAgg110 sizeOf110 rfl rfl)
 replace N:Mem Φ (.blk f (ob [.int .i64 (e.kind),.int .i64 (e.num),.string e.name,.slice W e.args.length c4,.slice (some p0) e.arms.length t] 110)::.gs (r0) 9 1 (strs (m2++b.vars))::K) w:=by rw [show b=u0 from Option.some.inj (c.symm.trans B)];exact N
 replace N:=N.pl 1
 refine st J rfl rfl rfl (jH J rfl call111 (ih _ (by first | exact Ex.lt_args (mgQ c) | exact Ex.lt_arms (mgQ c)) (l:=m2++b.vars) (by have hq:=congrArg List.length k;rw [zA c] at hq;simp only [bindPs,qE,laQ] at hq hb ⊢;omega) F N) fun s0 w N a J=>?_)
 replace N:=N.nf
 refine go fun a J=>?_
 replace N:=N.pl 1
 refine P _ _ _ (by subst q;omega) ⟨(j+1),(s0),((m2++b.vars++zN b.body)),rfl,J.pk,N,?_⟩
 rw [k,zA c,qE];simp
 refine zC ?_
 replace N:=N.dl [0]
 refine ⟨_,rfl,?_⟩
 rw [show (strs (l++zN e))=(strs m2) by rw [k,zB y];simp [bindPa]];exact N
theorem q9u {d:List Value} {e:Ex} {v:Value} {l:List Bs} (hb:l.length+(zN e).length<=8796093000000) (re:REx Φ d e) (N:Mem Φ (.gs v 9 1 (strs l)::K) w) :
  Calls prog 111 #[v,.agg d.toArray] w (fun ee w'=>∃v,ee=.returned v/\Mem Φ (.gs v 9 1 (strs (l++zN e))::K) w'):=by
 suffices H:∀n (e:Ex),e.sz < n->∀{Φ:Fz} {K:List Res} {w:World} {d:List Value} {v:Value} {l:List Bs},l.length+(zN e).length<=8796093000000->REx Φ d e->Mem Φ (.gs v 9 1 (strs l)::K) w->Calls prog 111 #[v,.agg d.toArray] w (fun ee w'=>∃v,ee=.returned v/\Mem Φ (.gs v 9 1 (strs (l++zN e))::K) w') from H _ e (Nat.lt_succ_self _) hb re N
 intro n
 induction n with
 | zero=>intro e h;omega
 | succ n b=>intro e h Φ K w d v l hb re N;exact y9d re hb (fun x c _ _ _ _ _ _ a r m=>b x (by omega) a r m) N
theorem y2y {v0:Value} {l:List Bs} {s:Bs} (f:SliceOf RStr Φ 1 v0 l) (N:Mem Φ K w) :
  Calls prog 18 #[v0,.string s] w (fun ee w'=>ee=.returned (.bool (gB l s))/\Mem Φ K w'):=by
 obtain ⟨p0,c0,rfl,q,k⟩:=f.fm
 refine zL func18 ntmps18 fun Q hQ a J=>?_
 refine go fun a J=>?_
 refine zT (J.ks [0,1]) N (fun R mm a w=>∃(i:Nat),mm=l.length - i/\R Φ [(5,.int .i64 i)] [] a w/\(gB l s=gB (l.drop i) s)) (l.length - 0) ⟨0,rfl,⟨J.pk,N⟩,rfl⟩ ?_
 clear N J
 rintro mm a w ⟨i,j,⟨J,N⟩,c⟩ t h
 by_cases m:i < l.length
 refine go fun a J=>?_
 obtain ⟨r,rfl,g,b,d,o,n,e⟩:=f.el k m
 obtain rfl:d=[.string g]:=e
 by_cases p:g=s
 refine zC ?_
 exact zQ N (by rw [c,zA b,z8o];simp [*])
 refine go fun a J=>?_
 refine h _ _ _ (by subst j;omega) ⟨(i+1),rfl,⟨J.pk,N⟩,?_⟩
 rw [c,zA b,z8o];simp [*]
 refine zC ?_
 exact zQ N (by rw [c,zB m];rfl)
end
theorem q6q {Φ:Fz} {K:List Res} {w:World} {d0:List Value} {f:Fun} (n:RFun Φ d0 f) (hb:f.params.length+(zN f.body).length<=8796093000000) (N:Mem Φ K w) :
  Calls Tryz.prog 79 #[.agg d0.toArray] w (fun ee w'=>∃v,ee=.returned v/\Mem Φ (.gs v 9 1 (strs (f.params.map Param.name++zN f.body))::K) w'):=by
 obtain ⟨Y,W,rfl,r,s⟩:=id n
 obtain ⟨X,c4,rfl,M,k⟩:=r.fm
 obtain ⟨P,G,S,H,rfl,y,I,L,A,C,B,D⟩:=REx.fm s
 refine zL Tryz.func79 Tryz.ntmps79 fun Q hQ a J=>?_
 refine Bx fun F w N a J=>?_
 refine go fun a J=>?_
 replace N:=N.nilRow 9 1
 replace N:=N.nf
 refine go fun a J=>?_
 refine zT (J.ks [1]) N (fun R mm a w=>∃(i:Nat) (u:Value) (nl:List Bs),mm=f.params.length - i/\R Φ [(3,u),(4,.int .i64 i)] [(0,.gs (u) 9 1 (strs nl))] a w/\(f.params.map Param.name=nl++(f.params.drop i).map Param.name)) (f.params.length - 0) ⟨0,.slice none 0 0,[],rfl,⟨J.pk,N⟩,rfl⟩ ?_
 clear N J
 rintro mm a w ⟨i,u,nl,j,⟨J,N⟩,b⟩ E e
 replace N:=N.nf
 by_cases d:i < f.params.length
 refine go fun a J=>?_
 obtain ⟨T,rfl,p,h,q,z,t,g⟩:=r.el k d
 obtain rfl:=id g
 refine jQ fun U w N a J=>?_
 refine vH 1 xP (fun o w N a J=>?_) (hb:=by have m:=congrArg List.length (b);simp only [List.length_map,laQ,zR,lcQ,lnQ] at m ⊢;omega)
 first | rw [qC] at N | rw [<- yK] at N
 refine go fun a J=>?_
 replace N:=N.dl [0]
 refine e _ _ _ (by subst j;omega) ⟨(i+1),(o),(nl++[p.name]),rfl,⟨J.pk,N⟩,?_⟩
 rw [b,zA h];simp
 refine go fun a J=>?_
 have c:=b
 rw [zB d] at c
 simp only [List.map_nil,List.append_nil] at c
 rw [<- c] at N
 refine go fun a J=>?_
 refine st J rfl rfl rfl (jH J rfl Tryz.call111 (q9u (l:=(f.params.map Param.name)) (by simp only [List.length_map];omega) s N) fun V w N a J=>?_)
 replace N:=N.nf
 refine zC ?_
 replace N:=N.dl [1]
 refine ⟨_,rfl,?_⟩
 rw [show (strs (f.params.map Param.name++zN f.body))=(strs ((f.params.map Param.name)++zN f.body)) by rfl];exact N
section
variable {Φ:Fz} {K:List Res} {w:World}
theorem z7p {s:Bs} {lo a:Nat} (h:s.size < 1∨24 < s.size∨zF s 0 < lo∨a < zF s 0):z0w s lo a=false:=if_pos h
theorem x3e {s:Bs} {lo a:Nat} (h:¬(s.size < 1∨24 < s.size∨zF s 0 < lo∨a < zF s 0)) (h1:xN s=s.size):z0w s lo a=true:=by unfold z0w;rw [if_neg h,if_pos h1]
theorem q2z {s:Bs} {lo c i:Nat} (h1:xN s=i) (a:i≠s.size) (b:zF s i≠39∨i+1=s.size):z0w s lo c=false:=by
 subst h1;unfold z0w;rw [if_neg a,if_pos b];split <;> rfl
theorem z9u {s:Bs} {lo a i:Nat} (h:¬(s.size < 1∨24 < s.size∨zF s 0 < lo∨a < zF s 0)) (h1:xN s=i) (b:i≠s.size) (c:¬(zF s i≠39∨i+1=s.size)):z0w s lo a=decide (i+1+yR yF s s.size (i+1)=s.size):=by
 subst h1;unfold z0w;rw [if_neg h,if_neg b,if_neg c]
theorem x2a {c:Nat}  (N:Mem Φ K w) :
  Calls prog 183 #[.int .u8 c] w (fun ee w'=>ee=.returned (.bool (yQ c))/\Mem Φ K w'):=by
 refine zL func183 ntmps183 fun Q hQ a J=>?_
 by_cases l:97<=c
 by_cases m:c<=122
 rotate_left
 by_cases n:65<=c
 refine go fun a J=>?_
 by_cases p:c<=90
 rotate_left
 by_cases q:48<=c
 by_cases r:c<=57
 rotate_left
 refine Qq (fun a J=>?_) (o:=by exact fun J O=>mW (i:=c) (j:=95) J rfl rfl)
 rotate_left
 refine Qq (fun a J=>?_) (o:=by exact fun J O=>mW (i:=c) (j:=95) J rfl rfl)
 rotate_left
 refine go fun a J=>?_
 by_cases s:48<=c
 by_cases b:c<=57
 rotate_left
 refine Qq (fun a J=>?_) (o:=by exact fun J O=>mW (i:=c) (j:=95) J rfl rfl)
 rotate_left
 refine Qq (fun a J=>?_) (o:=by exact fun J O=>mW (i:=c) (j:=95) J rfl rfl)
 rotate_left
 by_cases d:65<=c
 by_cases e:c<=90
 rotate_left
 refine go fun a J=>?_
 by_cases f:48<=c
 by_cases g:c<=57
 rotate_left
 refine Qq (fun a J=>?_) (o:=by exact fun J O=>mW (i:=c) (j:=95) J rfl rfl)
 rotate_left
 refine Qq (fun a J=>?_) (o:=by exact fun J O=>mW (i:=c) (j:=95) J rfl rfl)
 rotate_left
 by_cases h:48<=c
 refine go fun a J=>?_
 by_cases k:c<=57
 rotate_left
 refine Qq (fun a J=>?_) (o:=by exact fun J O=>mW (i:=c) (j:=95) J rfl rfl)
 rotate_left
 refine Qq (fun a J=>?_) (o:=by exact fun J O=>mW (i:=c) (j:=95) J rfl rfl)
 rotate_left
 all_goals (refine zC ?_;exact zQ N (by unfold yQ qP qX yF;simp <;> omega))
theorem j1g {s:Bs} {lo:Nat} {P:Nat}  (N:Mem Φ K w) :
  Calls prog 149 #[.string s,.int .u8 lo,.int .u8 P] w (fun ee w'=>ee=.returned (.bool (z0w s lo P))/\Mem Φ K w'):=by
 refine zL func149 ntmps149 fun Q hQ a J=>?_
 by_cases h4:s.size < 1
 rotate_left
 by_cases h6:24 < s.size
 rotate_left
 have M:0 < s.size:=by omega
 obtain ⟨c9,f⟩:=xV M
 refine Qq (fun a J=>?_) (o:=by exact fun J O=>xD 0 c9 J rfl rfl runUnderlying9 f)
 have W:=yO f
 by_cases a0:c9.toNat < lo
 have I:=yO f
 rotate_left
 obtain ⟨z,p⟩:=xV M
 refine Qq (fun a J=>?_) (o:=by exact fun J O=>xD 0 z J rfl rfl runUnderlying9 p)
 have I:=yO p
 refine go fun a J=>?_
 by_cases b0:P < z.toNat
 rotate_left
 refine goJ 6 fun a J=>?_
 refine sq fun S F=>?_
 have n:∀a w,(∃(i:Nat),EnvR 74 [(0,.string s),(7,.int .i64 i)] [] a/\Mem Φ (K) w/\(xN s=i/\1<=i/\i<=s.size/\¬(s.size < 1∨24 < s.size∨zF s 0 < lo∨P < zF s 0)))->S a w:=by
  clear N J
  rintro a w ⟨i,J,N,C⟩
  apply F
  obtain ⟨l,t,u,b⟩:=C
  by_cases c0:i=s.size
  refine zC ?_
  exact zQ N (by exact (x3e b (by omega)).symm)
  have L:i < s.size:=by omega
  obtain ⟨A,q⟩:=xV L
  refine Qq (fun a J=>?_) (o:=by exact fun J O=>xD i A J rfl rfl runUnderlying9 q)
  have X:=yO q
  by_cases d0:A.toNat=39
  by_cases e0:(i+1)=s.size
  rotate_left
  refine go fun a J=>?_
  refine zT (J.ks [0]) N (fun R mm a w=>∃(k:Nat),mm=s.size - k/\R Φ [(8,.int .i64 k)] [] a w/\(k<=s.size/\i+1+yR yF s s.size (i+1)=k+yR yF s s.size k)) (s.size - (i+1)) ⟨i+1,rfl,⟨J.pk,N⟩,by exact ⟨by omega,rfl⟩⟩ ?_
  clear N J
  rintro mm a w ⟨k,y,⟨J,N⟩,D⟩ Y G
  obtain ⟨h0,m⟩:=D
  by_cases B:k < s.size
  obtain ⟨c42,g⟩:=xV B
  refine Qq (fun a J=>?_) (o:=by exact fun J O=>xD k c42 J rfl rfl runUnderlying9 g)
  have V:=yO g
  by_cases f0:c42.toNat < 48
  have r:=yO g
  rotate_left
  obtain ⟨c46,h⟩:=xV B
  refine Qq (fun a J=>?_) (o:=by exact fun J O=>xD k c46 J rfl rfl runUnderlying9 h)
  have r:=yO h
  by_cases g0:57 < c46.toNat
  rotate_left
  refine go fun a J=>?_
  refine G _ _ _ (by subst y;omega) ⟨(k+1),rfl,⟨J.pk,N⟩,?_⟩
  exact ⟨by omega,by rw [m,xW yF s k,if_pos ⟨by omega,by rw [yO h];simp [yF];omega⟩];omega⟩
  refine zC ?_
  exact zQ N (by rw [z9u b l (by omega) (by omega),m,xW,if_neg (by omega)];exact (decide_eq_true (by omega)).symm)
  rotate_left
  all_goals first | (refine zC ?_;exact zQ N (by rw [z9u b l (by omega) (by omega),m,xW,if_neg (by rintro ⟨_,d⟩;simp [yF] at d;omega)];exact (decide_eq_false (by omega)).symm)) | (refine zC ?_;exact zQ N (by exact (q2z l (by omega) (by omega)).symm))
 refine go fun a J=>?_
 refine zT (J.ks [0]) N (fun R mm a w=>∃(i:Nat),mm=s.size - i/\R Φ [(7,.int .i64 i)] [] a w/\(1<=i/\i<=s.size/\xN s=i+yR yQ s s.size i/\¬(s.size < 1∨24 < s.size∨zF s 0 < lo∨P < zF s 0))) (s.size - 1) ⟨1,rfl,⟨J.pk,N⟩,by exact ⟨by omega,by omega,rfl,by omega⟩⟩ ?_
 clear N J
 rintro mm a w ⟨i,y,⟨J,N⟩,E⟩ Z H
 obtain ⟨t,u,v,b⟩:=E
 by_cases U:i < s.size
 obtain ⟨T,j⟩:=xV U
 refine Qq (fun a J=>?_) (o:=by exact fun J O=>xD i T J rfl rfl runUnderlying9 j)
 refine yH call183 (fun e w N a J=>?_) (fun e w N a J=>?_) (c:=x2a N)
 refine go fun a J=>?_
 refine H _ _ _ (by subst y;omega) ⟨(i+1),rfl,⟨J.pk,N⟩,?_⟩
 exact ⟨by omega,by omega,by rw [v,xW yQ s i,if_pos ⟨by omega,by rw [yO j];exact e⟩];omega,b⟩
 refine go fun a J=>?_
 exact n _ _ ⟨i,J.pk,N,⟨by rw [v,xW yQ s i,if_neg (by rintro ⟨_,d⟩;rw [yO j,e] at d;cases d)];rfl,t,u,b⟩⟩
 refine go fun a J=>?_
 exact n _ _ ⟨i,J.pk,N,⟨by rw [v,xW yQ s i,if_neg (by omega)];rfl,t,u,b⟩⟩
 all_goals (refine zC ?_;exact zQ N (by exact (z7p (by omega)).symm))
theorem x7y {s:Bs}  (N:Mem Φ K w) :
  Calls prog 150 #[.string s] w (fun ee w'=>ee=.returned (.bool (z4b s))/\Mem Φ K w'):=by
 refine zL func150 ntmps150 fun Q hQ a J=>?_
 refine jQ fun v3 w N a J=>?_
 refine yH call149 (fun g w N a J=>?_) (fun g w N a J=>?_) (c:=j1g (s:=s) N)
 refine go fun a J=>?_
 have b:=N
 clear N
 obtain ⟨k,j,N,f⟩:=b.freezeRow (i:=0) rfl
 clear b
 replace N:=N.nf
 have e:SliceOf RStr k 1 _ (wordsL):=SliceOf.strs.2 f
 obtain ⟨o,n,h,l,m⟩:=e.form (by decide)
 have d:=N
 clear N
 subst h
 have N:=d
 clear d
 refine zO call18 (fun w N a J=>?_) (c:=y2y e N)
 refine zC ?_
 replace N:=N.le (j)
 exact zQ N (by simp [z4b, *])
 refine zC ?_
 replace N:=N.dl [0]
 exact zQ N (by simp [z4b, *])
theorem x0n {s:Bs}  (N:Mem Φ K w) :
  Calls prog 109 #[.string s] w (fun ee w'=>ee=.returned (.bool (z4b s))/\Mem Φ K w'):=by
 refine zL func109 ntmps109 fun Q hQ a J=>?_
 refine zO call150 (fun w N a J=>?_) (c:=x7y N)
 refine zC ?_
 exact zQ N (by rfl)
theorem q1c {s:Bs}  (N:Mem Φ K w) :
  Calls prog 108 #[.string s] w (fun ee w'=>ee=.returned (.bool (conR s))/\Mem Φ K w'):=by
 refine zL func108 ntmps108 fun Q hQ a J=>?_
 refine zO call149 (fun w N a J=>?_) (c:=j1g (s:=s) N)
 refine zC ?_
 exact zQ N (by rfl)
theorem y0b (N:Mem Φ K w) :
  Calls prog 151 #[] w (fun ee w'=>∃y:Fz×List Value,ee=.returned (.agg y.2.toArray)/\(Φ.Le y.1/\RData y.1 y.2 truthsD)/\Mem y.1 K w'):=by
 refine zL func151 ntmps151 fun Q hQ a J=>?_
 refine Alc fun n w N a J=>?_
 refine qM fun a J=>?_
 refine qM fun a J=>?_
 refine jQ fun v4 w N a J=>?_
 have b:=N
 clear N
 obtain ⟨f,j,N,e⟩:=b.freezeRow (i:=0) rfl
 clear b
 replace N:=N.nf
 have d:SliceOf RCon f 2 _ (truthsD.cons):=⟨_,e,⟨[_,_],[_,_],rfl,rfl,⟨_,rfl,SliceOf.nil 1⟩,[_,_],[],rfl,rfl,⟨_,rfl,SliceOf.nil 1⟩,rfl⟩⟩
 obtain ⟨o,m,h,k,l⟩:=d.form (by decide)
 have c:=N
 clear N
 subst h
 have N:=c
 clear c
 refine qM fun a J=>?_
 refine Sto 0 fun w N a J=>?_
 refine go fun a J=>?_
 have g:=N
 replace N:=N.dl [0]
 refine pR (N:=g) ?_
 exact ⟨(f,_),rfl,⟨j,_,rfl,d⟩,N⟩
theorem z4o {d0:List Value} {c:Core} {name:Bs} (l:RCore Φ d0 c) (N:Mem Φ K w) :
  Calls prog 110 #[.agg d0.toArray,.string name] w (fun ee w'=>∃y:Fz×List Value,ee=.returned (.tuple #[.agg y.2.toArray,.bool (qQ c.datas name).isSome])/\(Φ.Le y.1/\RData y.1 y.2 ((qQ c.datas name).getD uY))/\Mem y.1 K w'):=by
 obtain ⟨p3,c4,p9,c0,j0,e0,k0,c22,rfl,v,h8,g0,h0,i0,C,L,U,M,V,P,W⟩:=RCore.fm l
 refine zL func110 ntmps110 fun Q hQ a J=>?_
 refine Bx fun a0 w N a J=>?_
 refine Alc fun b0 w N a J=>?_
 by_cases n:name=(⟨#[66,111,111,108]⟩:Bs)
 refine yU call151 (fun F w q N a J=>?_) (c:=y0b N)
 obtain ⟨t,f0⟩:=F
 obtain ⟨b,e⟩:=q
 simp only at b e N J
 replace v:=v.up b
 replace l:=RCore.mono _ _ _ _ b l
 replace N:=N.nf
 obtain ⟨m0,rfl,z⟩:=id e
 obtain ⟨D,u,rfl,S,X⟩:=z.fm
 refine Sto 0 fun w N a J=>?_
 refine go fun a J=>?_
 have d:=N
 replace N:=N.dl [1,0]
 refine hQ _ _ _ (j4b (i:=0) (cs:=[.string truthsD.name,.slice D truthsD.cons.length u]) J d.toSees results110 rfl rfl isAgg126 sizeOf126 rfl rfl ?_)
 have m:=show qQ c.datas name=some truthsD from if_pos n
 rw [m];exact ⟨(t,_),rfl,⟨b,e⟩,N⟩
 refine go fun a J=>?_
 refine zT (J.ks [1,2,4]) N (fun R mm a w=>∃(i:Nat),mm=c.datas.length - i/\R Φ [(6,.int .i64 i)] [] a w/\(¬name=kV/\vC c.datas name=vC (c.datas.drop i) name)) (c.datas.length - 0) ⟨0,rfl,⟨J.pk,N⟩,⟨n,rfl⟩⟩ ?_
 clear N J
 rintro mm a w ⟨i,B,⟨J,N⟩,r⟩ Z s
 obtain ⟨j,k⟩:=r
 by_cases o:i < c.datas.length
 refine go fun a J=>?_
 obtain ⟨l0,rfl,f,h,G,I,H,g⟩:=v.el C o
 obtain ⟨n0,rfl,A⟩:=id g
 obtain ⟨E,c63,rfl,T,Y⟩:=A.fm
 by_cases p:f.name=name
 refine Sto 0 fun w N a J=>?_
 refine go fun a J=>?_
 have d:=N
 replace N:=N.dl [1,0]
 refine hQ _ _ _ (j4b (i:=0) (cs:=[.string f.name,.slice E f.cons.length c63]) J d.toSees results110 rfl rfl isAgg126 sizeOf126 rfl rfl ?_)
 have m:=show qQ c.datas name=some f by rw [qQ,if_neg j,k,zA h,vC,if_pos p]
 rw [m];exact ⟨(Φ,_),rfl,⟨Fz.Le.refl _,g⟩,N⟩
 refine go fun a J=>?_
 refine s _ _ _ (by subst B;omega) ⟨(i+1),rfl,⟨J.pk,N⟩,?_⟩
 exact ⟨j,by rw [k,zA h,vC,if_neg p]⟩
 refine qM fun a J=>?_
 refine Sto 0 fun w N a J=>?_
 refine go fun a J=>?_
 have d:=N
 replace N:=N.dl [1,0]
 refine hQ _ _ _ (j4b (i:=0) (cs:=[.string ⟨#[]⟩,.slice none 0 0]) J d.toSees results110 rfl rfl isAgg126 sizeOf126 rfl rfl ?_)
 have m:=show qQ c.datas name=none by rw [qQ,if_neg j,k,zB o,vC]
 rw [m];exact ⟨(Φ,_),rfl,⟨Fz.Le.refl _,⟨_,rfl,SliceOf.nil 2⟩⟩,N⟩
theorem z4v {d0:List Value} {c:Core} {name:Bs} (d:RCore Φ d0 c) (N:Mem Φ K w) :
  Calls prog 78 #[.agg d0.toArray,.string name] w (fun ee w'=>ee=.returned (.bool (jY c.datas name))/\Mem Φ K w'):=by
 obtain ⟨P,c4,R,y,F,z,G,c22,rfl,L,M,B,C,D,E,k,p,l,q,m,r⟩:=RCore.fm d
 refine zL func78 ntmps78 fun Q hQ a J=>?_
 refine Bx fun u w N a J=>?_
 refine yU call110 (fun i w g N a J=>?_) (c:=z4o d N)
 obtain ⟨t,A⟩:=i
 obtain ⟨b,e⟩:=g
 simp only at b e N J
 replace d:=RCore.mono _ _ _ _ b d
 replace N:=N.nf
 obtain ⟨I,rfl,h⟩:=id e
 obtain ⟨H,c37,rfl,n,s⟩:=h.fm
 refine Alc fun v w N a J=>?_
 refine Sto 0 fun w N a J=>?_
 refine go fun a J=>?_
 generalize j:(qQ c.datas name).isSome=f at J
 cases f
 refine Qq (fun a J=>?_) (o:=by exact fun J O=>z7r J rfl rfl)
 refine zC ?_
 replace N:=N.le (b)
 replace N:=N.dl [1,0]
 exact zQ N (by simp [jY,yT, *] <;> rfl)
 refine zC ?_
 replace N:=N.le (b)
 replace N:=N.dl [1,0]
 exact zQ N (by simp [jY,yT, *] <;> rfl)
theorem z8k {d0:List Value} {c:Core} {name:Bs} (o:RCore Φ d0 c) (N:Mem Φ K w) :
  Calls prog 81 #[.agg d0.toArray,.string name] w (fun ee w'=>ee=.returned (.int .i64 (mZ c.funs name))/\Mem Φ K w'):=by
 obtain ⟨p3,c4,p9,M,Z,P,a0,c22,rfl,h2,h8,k,U,X,Y,u,C,v,h,y,D⟩:=RCore.fm o
 refine zL func81 ntmps81 fun Q hQ a J=>?_
 refine Bx fun I w N a J=>?_
 refine go fun a J=>?_
 refine zT (J.ks [1,2]) N (fun R mm a w=>∃(i:Nat),mm=c.funs.length - i/\R Φ [(5,.int .i64 i)] [] a w/\(nE c.funs name=sC (c.funs.drop i) name i)) (c.funs.length - 0) ⟨0,rfl,⟨J.pk,N⟩,rfl⟩ ?_
 clear N J
 rintro mm a w ⟨i,n,⟨J,N⟩,b⟩ H g
 by_cases e:i < c.funs.length
 refine go fun a J=>?_
 obtain ⟨f0,rfl,p,d,q,t,r,j⟩:=k.el h e
 obtain ⟨g0,L,rfl,l,m⟩:=id j
 obtain ⟨b0,c46,rfl,z,E⟩:=l.fm
 obtain ⟨c0,S,e0,T,rfl,s,V,W,A,F,B,G⟩:=REx.fm m
 by_cases f:p.name=name
 refine zC ?_
 replace N:=N.dl [0]
 exact pX N (by rw [mZ,b,zA d,sC,if_pos f])
 refine go fun a J=>?_
 refine g _ _ _ (by subst n;omega) ⟨(i+1),rfl,⟨J.pk,N⟩,?_⟩
 rw [b,zA d,sC,if_neg f]
 refine zC ?_
 replace N:=N.dl [0]
 exact pX N (by rw [mZ,b,zB e,sC])
theorem j8x {d0:List Value} {c:Core} {name:Bs} (p:RCore Φ d0 c) (k0:c.datas.length<=1000) (N:Mem Φ K w) :
  Calls prog 113 #[.agg d0.toArray,.string name] w (fun ee w'=>∃y:Fz×List Value,ee=.returned (.tuple #[.agg y.2.toArray,.string (((nO c.datas name).map Maker.data).getD sNo),.bool (nO c.datas name).isSome])/\(Φ.Le y.1/\RCon y.1 y.2 (((nO c.datas name).map Maker.con).getD y0u))/\Mem y.1 K w'):=by
 obtain ⟨p3,c4,p9,D0,L0,E0,M0,c22,rfl,W,h8,H0,I0,J0,K0,l0,s0,m0,t0,n0,u0⟩:=RCore.fm p
 refine zL func113 ntmps113 fun Q hQ a J=>?_
 refine Bx fun B0 w N a J=>?_
 refine Alc fun C0 w N a J=>?_
 refine go fun a J=>?_
 refine yN [0,0,1,2,0,1] (.q 2 (.q 3 (.e 0 (.e 1 (.e 4 (.q 5 (.done))))))) [0,1] J N fun w N=>?_
 refine yU call151 (fun b0 w I N a J=>?_) (c:=y0b N)
 obtain ⟨y0,G0⟩:=b0
 obtain ⟨f,d⟩:=I
 simp only at f d N J
 replace W:=W.up f
 replace p:=RCore.mono _ _ _ _ f p
 replace N:=N.nf
 obtain ⟨S0,rfl,X⟩:=id d
 obtain ⟨N0,c38,rfl,o0,w0⟩:=X.fm
 refine jQ fun V0 w N a J=>?_
 obtain ⟨c0,s,b⟩:=id W
 refine vH 0 rt_22 (fun W0 w N a J=>?_) (hr:=s.rowIn N.toSees) (h1:=b.ones RData.ones) (hb:=by have h_:=b.length;simp only [lcQ,lnQ];omega)
 refine go fun a J=>?_
 have u:=N
 clear N
 obtain ⟨l,g,N,t⟩:=u.freezeRow (i:=0) rfl
 clear u
 replace p:=RCore.mono _ _ _ _ g p
 replace d:=RData.mono _ _ _ _ g d
 replace b:=b.mono fun _ _ h=>RData.mono _ _ _ _ g h
 replace N:=N.nf
 have o:SliceOf RData l 2 _ (truthsD::c.datas):=⟨_,t,⟨_,_,rfl,rfl,d,b⟩⟩
 obtain ⟨O0,c53,Z,p0,P⟩:=o.form (by decide)
 have v:=N
 clear N
 subst Z
 have N:=v
 clear v
 refine go fun a J=>?_
 refine zT (J.ks [1,4,7]) N (fun R mm a w=>∃(i:Nat),mm=(truthsD::c.datas).length - i/\R l [(8,.int .i64 i)] [] a w/\(mR (truthsD::c.datas) name=mR ((truthsD::c.datas).drop i) name)) ((truthsD::c.datas).length - 0) ⟨0,rfl,⟨J.pk,N⟩,rfl⟩ ?_
 clear N J
 rintro mm a w ⟨i,D,⟨J,N⟩,m⟩ z0 L
 by_cases E:i < (truthsD::c.datas).length
 refine go fun a J=>?_
 obtain ⟨Q0,rfl,j,A,e0,i0,g0,T⟩:=o.el P E
 obtain ⟨T0,rfl,F⟩:=id T
 obtain ⟨P0,F0,rfl,q0,S⟩:=F.fm
 refine zT (J.ks [1,4,7,8]) N (fun R mm a w=>∃(k:Nat),mm=j.cons.length - k/\R l [(9,.int .i64 k)] [] a w/\(oZ j.cons name=oZ (j.cons.drop k) name)) (j.cons.length - 0) ⟨0,rfl,⟨J.pk,N⟩,rfl⟩ ?_
 clear N J
 rintro mm a w ⟨k,D,⟨J,N⟩,n⟩ A0 M
 by_cases G:k < j.cons.length
 refine go fun a J=>?_
 obtain ⟨R0,rfl,r,B,f0,j0,h0,z⟩:=F.el S G
 obtain ⟨U0,rfl,Y⟩:=id z
 obtain ⟨a0,U,rfl,r0,x0⟩:=Y.fm
 by_cases H:r.name=name
 refine Reg [1,1,1,1,2,1,1,2,1,1,1,1,2,0,1,1] [1] fun w N a J=>?_
 refine Sto 0 fun w N a J=>?_
 refine go fun a J=>?_
 have C:=N
 replace N:=N.dl [1,0]
 refine hQ _ _ _ (z9k (i:=0) (cs:=[.string r.name,.slice a0 r.fields.length U]) J C.toSees results113 rfl rfl isAgg128 sizeOf128 rfl rfl rfl ?_)
 have V:=show nO c.datas name=some ⟨j.name,r⟩ by show mR (truthsD::c.datas) name=_;rw [m,zA A,mR,show oZ j.cons name=some r by rw [n,zA B,oZ,if_pos H]]
 rw [V];exact ⟨(l,_),rfl,⟨(f).trans g,z⟩,N⟩
 refine go fun a J=>?_
 refine M _ _ _ (by subst D;omega) ⟨(k+1),rfl,⟨J.pk,N⟩,?_⟩
 rw [n,zA B,oZ,if_neg H]
 refine go fun a J=>?_
 refine L _ _ _ (by subst D;omega) ⟨(i+1),rfl,⟨J.pk,N⟩,?_⟩
 rw [m,zA A,mR,show oZ j.cons name=none by rw [n,zB G,oZ]]
 refine qM fun a J=>?_
 refine Sto 0 fun w N a J=>?_
 refine go fun a J=>?_
 have C:=N
 replace N:=N.dl [1,0]
 refine hQ _ _ _ (z9k (i:=0) (cs:=[.string ⟨#[]⟩,.slice none 0 0]) J C.toSees results113 rfl rfl isAgg128 sizeOf128 rfl rfl rfl ?_)
 have V:=show nO c.datas name=none by show mR (truthsD::c.datas) name=_;rw [m,zB E,mR]
 rw [V];exact ⟨(l,_),rfl,⟨(f).trans g,⟨_,rfl,SliceOf.nil 1⟩⟩,N⟩
theorem y0a {name:Bs} {d:Data} {l:List Data} (h:¬d.name=name):wK name (d::l)=wK name l/\kI name (d::l)=kI name l:=by
 simp only [wK,kI,List.any_cons,List.filter_cons,h,decide_false,Bool.false_and,Bool.false_or,Bool.false_eq_true,if_false,and_self]
theorem z1b {name:Bs} {d:Data} {l:List Data} (h:d.name=name):wK name (d::l)=(mO name d.cons || wK name l)/\kI name (d::l)=kI name l+1:=by
 simp only [wK,kI,List.any_cons,List.filter_cons,h,decide_true,Bool.true_and,if_true,lcQ,and_self]
theorem z5w (name:Bs) (x:Con) (l:List Con):mO name (x::l)=(x.fields.any (inF name) || mO name l):=rfl
theorem j2o {ds:List Data} {name:Bs} (a:¬name=yT) (h:wK name ds=true):xK ds name=false:=by rw [xK,if_neg a,h];rfl
theorem y5h {ds:List Data} {name:Bs} {n:Nat} (a:¬name=yT) (h:wK name ds=false) (h1:kI name ds=n):xK ds name=(decide (n=1) && !decide (name=kV)):=by rw [xK,if_neg a,h,h1];rfl
theorem y1p {d0:List Value} {c:Core} {name:Bs} (T:RCore Φ d0 c) (N:Mem Φ K w) :
  Calls prog 76 #[.agg d0.toArray,.string name] w (fun ee w'=>ee=.returned (.bool (xK c.datas name))/\Mem Φ K w'):=by
 obtain ⟨p3,c4,p9,p0,B0,q0,C0,c22,rfl,h2,h8,s0,u0,A0,S,c0,i0,e0,j0,f0,k0⟩:=RCore.fm T
 refine zL func76 ntmps76 fun Q hQ a J=>?_
 refine Bx fun o0 w N a J=>?_
 by_cases A:name=(⟨#[73,110,116]⟩:Bs)
 refine zC ?_
 replace N:=N.dl [0]
 exact zQ N (by rw [xK];exact (if_pos A).symm)
 refine go fun a J=>?_
 refine zT (J.ks [1,2]) N (fun R mm a w=>∃(i:Nat) (n:Nat),mm=c.datas.length - i/\R Φ [(5,.int .i64 n),(6,.int .i64 i)] [] a w/\(¬name=yT/\n<=i/\wK name c.datas=wK name (c.datas.drop i)/\kI name c.datas=n+kI name (c.datas.drop i))) (c.datas.length - 0) ⟨0,0,rfl,⟨J.pk,N⟩,⟨A,Nat.le_refl _,rfl,by rw [Nat.zero_add];rfl⟩⟩ ?_
 clear N J
 rintro mm a w ⟨i,n,e,⟨J,N⟩,F⟩ l0 u
 obtain ⟨p,z0,q,t⟩:=F
 by_cases h:i < c.datas.length
 refine go fun a J=>?_
 obtain ⟨F0,rfl,d,b,U,Z,W,L⟩:=h2.el S h
 obtain ⟨I0,rfl,B⟩:=id L
 obtain ⟨D0,r0,rfl,g0,H⟩:=B.fm
 by_cases l:d.name=name
 refine go fun a J=>?_
 refine zT (J.ks [1,2,5,6]) N (fun R mm a w=>∃(k:Nat),mm=d.cons.length - k/\R Φ [(7,.int .i64 k)] [] a w/\(mO name d.cons=mO name (d.cons.drop k))) (d.cons.length - 0) ⟨0,rfl,⟨J.pk,N⟩,rfl⟩ ?_
 clear N J
 rintro mm a w ⟨k,e,⟨J,N⟩,m⟩ m0 G
 by_cases C:k < d.cons.length
 refine go fun a J=>?_
 obtain ⟨G0,rfl,f,y,V,a0,X,M⟩:=B.el H C
 obtain ⟨J0,rfl,D⟩:=id M
 obtain ⟨E0,c75,rfl,h0,I⟩:=D.fm
 refine go fun a J=>?_
 refine zT (J.ks [1,2,5,6,7,8]) N (fun R mm a w=>∃(j:Nat),mm=f.fields.length - j/\R Φ [(9,.int .i64 j)] [] a w/\(f.fields.any (inF name)=(f.fields.drop j).any (inF name))) (f.fields.length - 0) ⟨0,rfl,⟨J.pk,N⟩,rfl⟩ ?_
 clear N J
 rintro mm a w ⟨j,e,⟨J,N⟩,g⟩ n0 v
 by_cases E:j < f.fields.length
 refine go fun a J=>?_
 obtain ⟨H0,rfl,s,r,z,b0,Y,P⟩:=D.el I E
 obtain rfl:z=[.string s]:=P
 by_cases w0:s=(⟨#[73,110,116]⟩:Bs)
 refine go fun a J=>?_
 refine v _ _ _ (by subst e;omega) ⟨(j+1),rfl,⟨J.pk,N⟩,?_⟩
 rw [g,zA r,List.any_cons,show inF name s=false by simp [inF,yT, *],Bool.false_or]
 by_cases x0:s=name
 refine go fun a J=>?_
 refine v _ _ _ (by subst e;omega) ⟨(j+1),rfl,⟨J.pk,N⟩,?_⟩
 rw [g,zA r,List.any_cons,show inF name s=false by simp [inF,yT, *],Bool.false_or]
 refine zC ?_
 replace N:=N.dl [0]
 exact zQ N (by exact (j2o p (by rw [q,zA b,(z1b l).1,show mO name d.cons=true by rw [m,zA y,z5w,show f.fields.any (inF name)=true by rw [g,zA r,List.any_cons];simp [inF,yT, *]];rfl];rfl)).symm)
 refine go fun a J=>?_
 refine G _ _ _ (by subst e;omega) ⟨(k+1),rfl,⟨J.pk,N⟩,?_⟩
 rw [m,zA y,z5w,show f.fields.any (inF name)=false by rw [g,zB E];rfl,Bool.false_or]
 refine go fun a J=>?_
 refine u _ _ _ (by subst e;omega) ⟨(i+1),((n+1)),rfl,⟨J.pk,N⟩,?_⟩
 exact ⟨p,by omega,by rw [q,zA b,(z1b l).1,show mO name d.cons=false by rw [m,zB C];rfl,Bool.false_or],by rw [t,zA b,(z1b l).2];omega⟩
 refine go fun a J=>?_
 refine u _ _ _ (by subst e;omega) ⟨(i+1),(n),rfl,⟨J.pk,N⟩,?_⟩
 exact ⟨p,by omega,by rw [q,zA b,(y0a l).1],by rw [t,zA b,(y0a l).2]⟩
 by_cases y0:n=1
 refine Qq (fun a J=>?_) (o:=by exact fun J O=>j8j J rfl rfl)
 refine zC ?_
 replace N:=N.dl [0]
 rotate_left
 refine zC ?_
 replace N:=N.dl [0]
 rotate_left
 all_goals (exact zQ N (by rw [y5h (n:=n) p (by rw [q,zB h];rfl) (by rw [t,zB h];rfl)];simp [kV, *] <;> rfl))
theorem j3w {d0:List Value} {e:Ex} (b:REx Φ d0 e) (N:Mem Φ K w) :
  Calls prog 73 #[.agg d0.toArray,.int .i64 ((0:Nat):Int)] w (fun ee w'=>ee=.returned (.bool (xT 0 e))/\Mem Φ K w'):=by
 obtain ⟨m,c4,n,h,rfl,c,k,l,i,j,d,f⟩:=REx.fm b
 refine zL func73 ntmps73 fun Q hQ a J=>?_
 refine Bx fun g w N a J=>?_
 refine Qq (fun a J=>?_) (o:=by exact fun J O=>kD true J rfl rfl rfl)
 refine zC ?_
 replace N:=N.dl [0]
 exact zQ N (by rw [y3w])
theorem j3v {d0:List Value} {e:Ex} {m:Nat} (I:REx Φ d0 e) (A0:m < 100000) (ih:∀{Φ:Fz} {K:List Res} {w:World} {d:List Value} {e:Ex},REx Φ d e->Mem Φ K w->Calls prog 73 #[.agg d.toArray,.int .i64 m] w (fun ee w'=>ee=.returned (.bool (xT m e))/\Mem Φ K w')) (N:Mem Φ K w) :
  Calls prog 73 #[.agg d0.toArray,.int .i64 ((m+1:Nat):Int)] w (fun ee w'=>ee=.returned (.bool (xT (m+1) e))/\Mem Φ K w'):=by
 obtain ⟨p3,c4,p9,o0,rfl,S,h2,h8,z0,F,X,z⟩:=REx.fm I
 refine zL func73 ntmps73 fun Q hQ a J=>?_
 refine Bx fun m0 w N a J=>?_
 by_cases D:m+1=0
 refine zC ?_
 replace N:=N.dl [0]
 exact zQ N (by exact absurd D (by omega))
 refine go fun a J=>?_
 refine zT (J.ks [1,2]) N (fun R mm a w=>∃(i:Nat),mm=e.args.length - i/\R Φ [(5,.int .i64 i)] [] a w/\(xT (m+1) e=((e.args.drop i).any (xT m) || e.arms.any fun a=>xT m a.body))) (e.args.length - 0) ⟨0,rfl,⟨J.pk,N⟩,by rw [z4r];rfl⟩ ?_
 clear N J
 rintro mm a w ⟨i,q,⟨J,N⟩,g⟩ k0 u
 by_cases r:i < e.args.length
 refine go fun a J=>?_
 obtain ⟨E0,rfl,H0,n,L,V,P,l⟩:=h2.el F r
 obtain ⟨B0,p0,C0,q0,rfl,T,t0,u0,Y,e0,Z,f0⟩:=REx.fm l
 refine Qq (fun a J=>?_) (o:=by exact fun J O=>pY ((m:Nat):Int) J rfl rfl (by rw [jW (by omega)];omega))
 refine yH call73 (fun b w N a J=>?_) (fun b w N a J=>?_) (c:=ih l N)
 refine zC ?_
 replace N:=N.dl [0]
 exact zQ N (by rw [g,zA n,List.any_cons,b];rfl)
 refine go fun a J=>?_
 refine u _ _ _ (by subst q;omega) ⟨(i+1),rfl,⟨J.pk,N⟩,?_⟩
 rw [g,zA n,List.any_cons,b,Bool.false_or]
 refine go fun a J=>?_
 refine zT (J.ks [1,2]) N (fun R mm a w=>∃(j:Nat),mm=e.arms.length - j/\R Φ [(6,.int .i64 j)] [] a w/\(xT (m+1) e=(e.arms.drop j).any fun a=>xT m a.body)) (e.arms.length - 0) ⟨0,rfl,⟨J.pk,N⟩,by rw [g,zB r];rfl⟩ ?_
 clear N J
 rintro mm a w ⟨j,q,⟨J,N⟩,h⟩ l0 v
 by_cases s:j < e.arms.length
 refine go fun a J=>?_
 obtain ⟨F0,rfl,k,p,M,W,y,A⟩:=h8.el z s
 obtain ⟨G0,n0,rfl,E,t⟩:=RArm.iff.1 A
 obtain ⟨D0,r0,rfl,a0,g0⟩:=E.fm
 obtain ⟨G,B,H,C,rfl,U,w0,y0,b0,h0,c0,i0⟩:=REx.fm t
 refine Qq (fun a J=>?_) (o:=by exact fun J O=>vL 2 (vs:=[.int .i64 (k.body.kind),.int .i64 (k.body.num),.string k.body.name,.slice G k.body.args.length B,.slice H k.body.arms.length C]) J O rfl y isAgg110 sizeOf110 rfl rfl)
 refine Qq (fun a J=>?_) (o:=by exact fun J O=>pY ((m:Nat):Int) J rfl rfl (by rw [jW (by omega)];omega))
 refine yH call73 (fun f w N a J=>?_) (fun f w N a J=>?_) (c:=ih t N)
 refine zC ?_
 replace N:=N.dl [0]
 exact zQ N (by rw [h,zA p,List.any_cons,f];rfl)
 refine go fun a J=>?_
 refine v _ _ _ (by subst q;omega) ⟨(j+1),rfl,⟨J.pk,N⟩,?_⟩
 rw [h,zA p,List.any_cons,f,Bool.false_or]
 refine zC ?_
 replace N:=N.dl [0]
 exact zQ N (by rw [h,zB s];rfl)
theorem x8v {m:Nat} (a:m < 100000):∀{Φ:Fz} {K:List Res} {w:World} {d:List Value} {e:Ex},REx Φ d e->Mem Φ K w->Calls prog 73 #[.agg d.toArray,.int .i64 m] w (fun ee w'=>ee=.returned (.bool (xT m e))/\Mem Φ K w'):=by
 induction m with
 | zero=>intro Φ K w d e re N;exact j3w re N
 | succ m b=>intro Φ K w d e re N;exact j3v re (by omega) (fun r h=>b (by omega) r h) N
theorem j4i {d0:List Value} {e:Ex} {most:Nat} (Z:REx Φ d0 e) (h1:most<=1000000) (ih:∀x:Ex,x.sz < e.sz->∀{Φ:Fz} {K:List Res} {w:World} {d:List Value} {most:Nat},most<=1000000->REx Φ d x->Mem Φ K w->Calls prog 107 #[.agg d.toArray,.int .i64 (most:Int)] w (fun ee w'=>ee=.returned (.int .i64 ((xE x most:Nat):Int))/\Mem Φ K w')) (N:Mem Φ K w) :
  Calls prog 107 #[.agg d0.toArray,.int .i64 (most:Int)] w (fun ee w'=>ee=.returned (.int .i64 (((xE e most:Nat):Int)))/\Mem Φ K w'):=by
 obtain ⟨p3,c4,p9,u,rfl,e0,h2,h8,N0,W,j0,H⟩:=REx.fm Z
 refine zL func107 ntmps107 fun Q hQ a J=>?_
 refine Bx fun s w N a J=>?_
 refine goJ 6 fun a J=>?_
 refine sq fun L C=>?_
 have p:∀a w,(∃(n:Nat),EnvR 66 [(1,.int .i64 most),(2,.pointer (some ⟨s,0,none⟩)),(5,.int .i64 n)] [] a/\Mem Φ (.blk s (ob [.int .i64 (e.kind),.int .i64 (e.num),.string e.name,.slice p3 e.args.length c4,.slice p9 e.arms.length u] 110)::K) w/\(1<=n/\n<=most+1/\xE e most=sizeAr e.arms most n))->L a w:=by
  clear N J
  rintro a w ⟨n,J,N,y⟩
  apply C
  obtain ⟨h,k,b⟩:=y
  refine sq fun M D=>?_
  have q:∀a w,(∃(n:Nat),EnvR 66 [(5,.int .i64 n)] [] a/\Mem Φ (.blk s (ob [.int .i64 (e.kind),.int .i64 (e.num),.string e.name,.slice p3 e.args.length c4,.slice p9 e.arms.length u] 110)::K) w/\(xE e most=n))->M a w:=by
   clear N J
   rintro a w ⟨n,J,N,z⟩
   apply D
   refine zC ?_
   replace N:=N.dl [0]
   exact pX N (by rw [z])
  refine go fun a J=>?_
  refine zT (J.ks [1,2]) N (fun R mm a w=>∃(j:Nat) (n:Nat),mm=e.arms.length - j/\R Φ [(5,.int .i64 n),(7,.int .i64 j)] [] a w/\(1<=n/\n<=most+1/\xE e most=sizeAr (e.arms.drop j) most n)) (e.arms.length - 0) ⟨0,n,rfl,⟨J.pk,N⟩,⟨h,k,b⟩⟩ ?_
  clear N J
  rintro mm a w ⟨j,n,t,⟨J,N⟩,A⟩ y0 E
  clear h k b
  obtain ⟨h,k,b⟩:=A
  by_cases T:j < e.arms.length
  by_cases F0:n<=most
  refine go fun a J=>?_
  obtain ⟨R0,rfl,f,g,a0,h0,G,I⟩:=h8.el H T
  obtain ⟨T0,A0,rfl,U,v⟩:=RArm.iff.1 I
  obtain ⟨O0,B0,rfl,k0,p0⟩:=U.fm
  obtain ⟨X,P,Y,S,rfl,f0,G0,H0,l0,q0,m0,r0⟩:=REx.fm v
  by_cases I0:16 < f.vars.length
  refine zC ?_
  replace N:=N.dl [0]
  exact pX N (by rw [b,zA g,z2h,if_pos (by omega),if_pos (by omega)])
  refine Qq (fun a J=>?_) (o:=by exact fun J O=>vL 2 (vs:=[.int .i64 (f.body.kind),.int .i64 (f.body.num),.string f.body.name,.slice X f.body.args.length P,.slice Y f.body.arms.length S]) J O rfl G isAgg110 sizeOf110 rfl rfl)
  refine Qq (fun a J=>?_) (o:=by exact fun J O=>pY ((most - n:Nat):Int) J rfl rfl (by rw [jW (by omega)];omega))
  refine zO call107 (fun w N a J=>?_) (c:=ih _ (by first | exact Ex.lt_args (mgQ g) | exact Ex.lt_arms (mgQ g)) (by omega) v N)
  refine Qq (fun a J=>?_) (o:=by exact fun J O=>y1j ((n+(xE f.body (most - n)):Nat):Int) J rfl rfl (by have h_:=mK f.body (most - n);rw [jW (by omega)];omega))
  refine go fun a J=>?_
  refine E _ _ _ (by subst t;omega) ⟨(j+1),(n+(xE f.body (most - n))),rfl,⟨J.pk,N⟩,?_⟩
  have h_:=mK f.body (most - n);exact ⟨by omega,by omega,by rw [b,zA g,z2h,if_pos (by omega),if_neg (by omega)]⟩
  rotate_left
  rotate_left
  all_goals (refine go fun a J=>?_;exact q _ _ ⟨n,J.pk,N,by rw [b,y7u (by omega)]⟩)
 refine go fun a J=>?_
 refine zT (J.ks [1,2]) N (fun R mm a w=>∃(i:Nat) (n:Nat),mm=e.args.length - i/\R Φ [(5,.int .i64 n),(6,.int .i64 i)] [] a w/\(1<=n/\n<=most+1/\xE e most=sizeAr e.arms most (sizeRs (e.args.drop i) most n))) (e.args.length - 0) ⟨0,1,rfl,⟨J.pk,N⟩,⟨by omega,by omega,x9v e most⟩⟩ ?_
 clear N J
 rintro mm a w ⟨i,n,t,⟨J,N⟩,B⟩ z0 F
 obtain ⟨h,k,b⟩:=B
 by_cases V:i < e.args.length
 by_cases J0:n<=most
 refine go fun a J=>?_
 obtain ⟨S0,rfl,m,l,b0,i0,c0,r⟩:=h2.el W V
 obtain ⟨P0,C0,Q0,D0,rfl,g0,L0,M0,n0,s0,o0,t0⟩:=REx.fm r
 refine Qq (fun a J=>?_) (o:=by exact fun J O=>pY ((most - n:Nat):Int) J rfl rfl (by rw [jW (by omega)];omega))
 refine zO call107 (fun w N a J=>?_) (c:=ih _ (by first | exact Ex.lt_args (mgQ l) | exact Ex.lt_arms (mgQ l)) (by omega) r N)
 refine Qq (fun a J=>?_) (o:=by exact fun J O=>y1j ((n+(xE m (most - n)):Nat):Int) J rfl rfl (by have h_:=mK m (most - n);rw [jW (by omega)];omega))
 refine go fun a J=>?_
 refine F _ _ _ (by subst t;omega) ⟨(i+1),(n+(xE m (most - n))),rfl,⟨J.pk,N⟩,?_⟩
 have h_:=mK m (most - n);exact ⟨by omega,by omega,by rw [b,zA l,j0k,if_pos (by omega)]⟩
 rotate_left
 rotate_left
 all_goals (refine go fun a J=>?_;exact p _ _ ⟨n,J.pk,N,⟨h,k,by rw [b,y7v (by omega)]⟩⟩)
theorem x9c {d:List Value} {e:Ex} {most:Nat} (h1:most<=1000000) (re:REx Φ d e) (N:Mem Φ K w) :
  Calls prog 107 #[.agg d.toArray,.int .i64 (most:Int)] w (fun ee w'=>ee=.returned (.int .i64 ((xE e most:Nat):Int))/\Mem Φ K w'):=by
 suffices H:∀n (e:Ex),e.sz < n->∀{Φ:Fz} {K:List Res} {w:World} {d:List Value} {most:Nat},most<=1000000->REx Φ d e->Mem Φ K w->Calls prog 107 #[.agg d.toArray,.int .i64 (most:Int)] w (fun ee w'=>ee=.returned (.int .i64 ((xE e most:Nat):Int))/\Mem Φ K w') from H _ e (Nat.lt_succ_self _) h1 re N
 intro n
 induction n with
 | zero=>intro e h;omega
 | succ n b=>intro e h Φ K w d most h1 re N;exact j4i re h1 (fun x c _ _ _ _ _ a r m=>b x (by omega) a r m) N
theorem y4t (l:List Bs) (s:Bs):has l s=gB l s:=rfl
theorem gA {v0:Value} {l:List Bs} (e:SliceOf RStr Φ 1 v0 l) (k:Cap v0) (N:Mem Φ K w) :
  Calls prog 77 #[v0] w (fun ee w'=>ee=.returned (.bool (cJ l))/\Mem Φ K w'):=by
 obtain ⟨p0,c0,rfl,y,t⟩:=e.fm
 have r:=k _ _ _ rfl
 refine zL func77 ntmps77 fun Q hQ a J=>?_
 refine go fun a J=>?_
 refine zT (J.ks [0]) N (fun R mm a w=>∃(i:Nat),mm=l.length - i/\R Φ [(3,.int .i64 i)] [] a w/\(cJ l=pS z4b (l.take i) (l.drop i))) (l.length - 0) ⟨0,rfl,⟨J.pk,N⟩,by rfl⟩ ?_
 clear N J
 rintro mm a w ⟨i,s,⟨J,N⟩,d⟩ A q
 by_cases p:i < l.length
 refine Reg [1,1,1,2,0,1,1,1,1,1,1,1,1,1,2,0,1] [] fun w N a J=>?_
 refine go fun a J=>?_
 obtain ⟨z,rfl,f,b,g,v,u,m⟩:=e.el t p
 obtain rfl:g=[.string f]:=m
 refine yH call109 (fun h w N a J=>?_) (fun h w N a J=>?_) (c:=x0n N)
 have n:=j0l e p
 refine Qq (fun a J=>?_) (o:=by exact fun J O=>q5w J rfl rfl rfl runUnderlying25 sizeOf9 (by omega))
 refine yH call18 (fun j w N a J=>?_) (fun j w N a J=>?_) (c:=y2y n N)
 refine zC ?_
 exact zQ N (by rw [d,zA b,pS];simp [y4t, *])
 refine go fun a J=>?_
 refine q _ _ _ (by subst s;omega) ⟨(i+1),rfl,⟨J.pk,N⟩,?_⟩
 rw [d,zA b,pS,jB b,show (z4b f && !has (l.take i) f)=true by simp [y4t, *]];rfl
 refine zC ?_
 exact zQ N (by rw [d,zA b,pS];simp [y4t, *])
 refine zC ?_
 exact zQ N (by rw [d,zB p];rfl)
end
end Go.Sw
