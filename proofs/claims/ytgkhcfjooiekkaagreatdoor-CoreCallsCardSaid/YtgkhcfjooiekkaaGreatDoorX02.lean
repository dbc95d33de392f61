import Derived.Test.YtgkhcfjooiekkaaGreatDoorX01
set_option linter.unusedVariables false
set_option linter.unusedSimpArgs false
namespace Go.Sw
structure Sound (T:Table) (C:Ctx):Prop where
 funs:C.funs=T.funs
 fOk:∀n f,zJ T.funs n=some f->pI T f=true/\f.result≠sNo
 dNo:zJ T.datas sNo=none
 dInt:zJ T.datas yH=none
 cD:∀con m,zJ T.cons con=some m->con≠sNo/\m.con.name=con/\m.data≠yH/\∃d,zJ T.datas m.data=some d/\m.con∈d.cons
 dC:∀t d x,zJ T.datas t=some d->x∈d.cons->zJ T.cons x.name=some ⟨t,x⟩
 cF:zJ T.cons kR=some ⟨kO,⟨kR,[]⟩⟩
 cT:zJ T.cons nT=some ⟨kO,⟨nT,[]⟩⟩
structure Closed (T:Table) (C:Ctx) (P:Ex->Prop):Prop where
 args:∀{e x},P e->x∈e.args->P x
 arms:∀{e a},P e->a∈e.arms->P a.body
 inp:∀{e t},P e->e.kind=3->zJ T.inputs e.name=some t->∃v,zJ C.inp e.name=some v/\mR T v t=true
 call:∀{e f},P e->e.kind=5->zJ T.funs e.name=some f->P f.body
def EnvOk (T:Table) (s:Scope) (env:Env):Prop:=∀n t,zJ s n=some t->∃v,zJ env n=some v/\mR T v t=true
def Good (T:Table) (r:Ev Val) (t:Bs):Prop:=r≠.stuck/\∀v g,r=.ok v g->mR T v t=true
def tL (T:Table) (vs:List Val) (ts:List Bs):Prop:=All2 (fun v t=>mR T v t=true) vs ts
theorem EnvOk.put {T:Table} {s:Scope} {env:Env} {n t:Bs} {v:Val} (h:EnvOk T s env) (b:mR T v t=true):EnvOk T (pD s n t) ((n,v)::env):=fun m u N=>by
 rw [kG] at N
 simp only [zJ]
 split at N
 ·simp only [Option.some.injEq] at N;subst N;rename_i a;rw [if_pos a];exact ⟨v,rfl,b⟩
 ·rename_i a;rw [if_neg a];exact h m u N
theorem y2y {T:Table}:∀{ns ts:List Bs} {vs:List Val} {s:Scope} {env:Env},ns.length=ts.length->tL T vs ts->EnvOk T s env->∃env',mU ns vs env=some env'/\EnvOk T (putAll s ns ts) env'
 | [],[],[],s,env,_,_,J=>⟨env,rfl,by rw [xU];exact J⟩
 | n::ns,t::ts,v::vs,s,env,hl,a,J=>by
  obtain ⟨env',h1,b⟩:=y2y (ns:=ns) (ts:=ts) (vs:=vs) (by simpa using hl) a.2 (J.put (n:=n) a.1)
  exact ⟨env',h1,b⟩
 | [],_::_,_,_,_,hl,_,_=>by simp at hl
 | _::_,[],_,_,_,hl,_,_=>by simp at hl
 | [],[],_::_,_,_,_,a,_=>a.elim
 | _::_,_::_,[],_,_,_,a,_=>a.elim
theorem y4p {T:Table}:∀{vs:List Val} {ts:List Bs},vs.length=ts.length->(hasL T vs ts=true↔tL T vs ts)
 | [],[],_=>by simp [hasL,tL,All2]
 | v::vs,t::ts,hl=>by
  simp only [hasL,tL,All2,List.headD_cons,List.tail_cons,baQ]
  rw [y4p (by simpa using hl)];rfl
 | [],_::_,hl=>by simp at hl
 | _::_,[],hl=>by simp at hl
theorem has_con {T:Table} {v:Val} {t:Bs} (h:mR T v t=true) (b:t≠yH):v.con≠sNo/\∃m,zJ T.cons v.con=some m/\m.data=t/\tL T v.args m.con.fields:=by
 cases v with
 | mk con num args=>
  simp only [mR] at h
  split at h
  ·simp only [baQ,decide_eq_true_eq] at h;exact absurd h.1.2 b
  ·rename_i a
   refine ⟨fun e=>a (.inl e),?_⟩
   split at h
   ·cases h
   ·rename_i m N
    simp only [baQ,decide_eq_true_eq] at h
    exact ⟨m,N,h.1.1.1,(y4p h.1.2.symm).1 h.2⟩
theorem j3z {T:Table} {C:Ctx} (c:Sound T C) {con:Bs} {m:Maker} {vs:List Val} (N:zJ T.cons con=some m) (a:tL T vs m.con.fields):mR T (.mk con 0 vs) m.data=true:=by
 obtain ⟨h1,d,b,_⟩:=c.cD con m N
 simp only [mR]
 rw [if_neg (fun e=>by rcases e with e | e;exact h1 e;exact b e)]
 simp only [N]
 have:=All2.length a
 simp only [baQ,decide_eq_true_eq]
 exact ⟨⟨⟨trivial,trivial⟩,this.symm⟩,(y4p this).2 a⟩
theorem z3x {T:Table} (n:Int):mR T (gQ n) yH=true:=by
 simp [gQ,mR]
theorem sInt_ne:yH≠sNo:=by decide
theorem q9n {T:Table} {C:Ctx} (a:Sound T C) (b:Bool):mR T (pY b) kO=true:=by
 cases b with
 | true=>exact j3z a (con:=nT) a.cT (vs:=[]) trivial
 | false=>exact j3z a (con:=kR) a.cF (vs:=[]) trivial
theorem z3u {T:Table} {C:Ctx} {P:Ex->Prop} {g:Nat} {s:Scope} {env:Env}
  (i:∀g1,g1<=g->∀e t,P e->(zP e).Nodup->Fresh s (zP e)->Ty T e s t->Good T (yM C g1 e env) t) :
  ∀{xs:List Ex} {ts:List Bs} {g1:Nat},(∀x∈xs,P x)->g1<=g->(bindPs xs).Nodup->Fresh s (bindPs xs)->All2 (fun x t=>Ty T x s t) xs ts->jZ (yM C) env xs g1≠.stuck/\∀vs a,jZ (yM C) env xs g1=.ok vs a->tL T vs ts/\a<=g1
 | [],[],g1,_,_,_,_,_=>⟨fun h=>(by cases h),fun vs a h=>by simp only [jZ,Ev.ok.injEq] at h;obtain ⟨rfl,rfl⟩:=h;exact ⟨trivial,Nat.le_refl _⟩⟩
 | x::xs,t::ts,g1,f,j,m,d,b=>by
  have hn':=zV (show (zP x++bindPs xs).Nodup from m)
  obtain ⟨p,q⟩:=i g1 j x t (f x msQ) hn'.1 (d.sub fun n h=>List.mem_append.2 (.inl h)) b.1
  simp only [jZ]
  cases hr:yM C g1 x env with
  | stuck=>exact absurd hr p
  | spent=>exact ⟨fun h=>(by cases h),fun vs a h=>by cases h⟩
  | ok v g3=>
   have k:=yF C _ _ _ _ _ hr
   obtain ⟨r,u⟩:=z3u i (xs:=xs) (ts:=ts) (g1:=g3) (fun y o=>f y (mcQ _ o)) (by omega) hn'.2.1 (d.sub fun n h=>List.mem_append.2 (.inr h)) b.2
   simp only [Ev.bind]
   cases c:jZ (yM C) env xs g3 with
   | stuck=>exact absurd c r
   | spent=>exact ⟨fun h=>(by cases h),fun vs a h=>by cases h⟩
   | ok l g4=>
    refine ⟨fun h=>(by cases h),fun vs a h=>?_⟩
    simp only [Ev.ok.injEq] at h
    obtain ⟨rfl,rfl⟩:=h
    have:=u _ _ c
    exact ⟨⟨q _ _ hr,this.1⟩,by omega⟩
 | [],_::_,_,_,_,_,_,b=>b.elim
 | _::_,[],_,_,_,_,_,b=>b.elim
theorem aZ (ps:List Param):sQ ps=putAll [] (ps.map Param.name) (ps.map Param.type):=by
 have:∀(ps:List Param) (s:Scope),ps.foldl (fun s p=>pD s p.name p.type) s=putAll s (ps.map Param.name) (ps.map Param.type):=by
  intro ps
  induction ps with
  | nil=>intro s;simp [xU]
  | cons p ps a=>intro s;simp only [List.foldl_cons,List.map_cons,aW,a]
 exact this ps []
theorem vG {nm:Bs->Bool}:∀{l ds:List Bs},mD nm ds l=true->l.Nodup/\(∀n∈l,n∉ds)/\∀n∈l,nm n=true
 | [],_,_=>by simp
 | s::l,ds,h=>by
  simp only [mD,baQ,Bool.not_eq_true'] at h
  obtain ⟨⟨h1,b⟩,d⟩:=h
  obtain ⟨e,c,f⟩:=vG d
  have O:s∉ds:=fun N=>by
   have:has ds s=true:=by simp only [has,List.any_eq_true,decide_eq_true_eq];exact ⟨s,N,rfl⟩
   rw [this] at b;cases b
  refine ⟨List.nodup_cons.2 ⟨fun N=>c s N (by simp),e⟩,fun n a=>?_,fun n a=>?_⟩
  ·rcases List.mem_cons.1 a with rfl | a
   ·exact O
   ·exact fun N=>c n a (List.mem_append.2 (.inl N))
  ·rcases List.mem_cons.1 a with rfl | a
   ·exact h1
   ·exact f n a
structure FunGood (T:Table) (f:Fun):Prop where
 nodup:(f.params.map Param.name++zP f.body).Nodup
 ty:Ty T f.body (sQ f.params) f.result
theorem q9j {T:Table} {C:Ctx} (b:Sound T C) {n:Bs} {f:Fun} (h:zJ T.funs n=some f):FunGood T f:=by
 obtain ⟨h1,a⟩:=b.fOk n f h
 simp only [pI,baQ,decide_eq_true_eq] at h1
 exact ⟨(vG h1.1.2).1,h1.2,h1.2▸a⟩
theorem q0g {T:Table} {C:Ctx} {P:Ex->Prop} (d:Sound T C) {g:Nat} {n:Bs} {f:Fun} {vs:List Val} (h:zJ T.funs n=some f) (hb:P f.body) (j:tL T vs (f.params.map Param.type))
  (k:∀e s env t,P e->(zP e).Nodup->Fresh s (zP e)->Ty T e s t->EnvOk T s env->Good T (yM C g e env) t):Good T (xC (yM C) f vs g) f.result:=by
 have b:=q9j d h
 have c:=zV b.nodup
 obtain ⟨env',h1,a⟩:=y2y (T:=T) (ns:=f.params.map Param.name) (ts:=f.params.map Param.type) (vs:=vs) (s:=[]) (env:=[]) (by simp) j (fun n t h=>by cases h)
 unfold xC nX
 rw [h1]
 rw [<- aZ] at a
 refine k _ _ _ _ hb c.2.1 (fun m N=>?_) b.ty a
 rw [aZ,vE (fun i=>c.2.2 m i N)];rfl
theorem y4d {T:Table} {s:Scope} {t:Bs}:∀{az:List Arm} {cs:List Con} {c:Con},All2 (fun a c=>ArmOk T s t a c) az cs->c∈cs->(∀d∈cs,d.name=c.name->d=c)->∃a,vA az c.name=some a/\a∈az/\ArmOk T s t a c
 | [],[],_,_,h,_=>by cases h
 | a::az,d::cs,c,h,f,g=>by
  simp only [vA]
  by_cases J:a.con=c.name
  ·rw [if_pos J]
   have:d=c:=g d msQ (by rw [<- h.1.1];exact J)
   subst this
   exact ⟨a,rfl,msQ,h.1⟩
  ·rw [if_neg J]
   rcases List.mem_cons.1 f with rfl | f
   ·exact absurd h.1.1 J
   ·obtain ⟨b,i,j,k⟩:=y4d h.2 f (fun e J=>g e (mcQ _ J))
    exact ⟨b,i,mcQ _ j,k⟩
 | [],_::_,_,h,_,_=>h.elim
 | _::_,[],_,h,_,_=>h.elim
theorem z5k {az:List Arm} {a:Arm} (h:a∈az):∃l r,bindPa az=l++(a.vars++zP a.body)++r:=by
 induction az with
 | nil=>cases h
 | cons b az c=>
  rw [qK]
  rcases List.mem_cons.1 h with rfl | h
  ·exact ⟨[],bindPa az,by simp⟩
  ·obtain ⟨l,r,e⟩:=c h
   exact ⟨b.vars++zP b.body++l,r,by rw [e];simp⟩
theorem sound {T:Table} {C:Ctx} {P:Ex->Prop} (D:Sound T C) (G:Closed T C P):∀(g:Nat) (e:Ex) (s:Scope) (env:Env) (t:Bs),P e->(zP e).Nodup->Fresh s (zP e)->Ty T e s t->EnvOk T s env->Good T (yM C g e env) t:=by
 intro g
 induction g using Nat.strongRecOn with
 | _ g ih=>
 cases g with
 | zero=>exact fun e s env t _ _ _ _ _=>⟨fun h=>(by rw [dP] at h;cases h),fun v g h=>by rw [dP] at h;cases h⟩
 | succ g=>
 intro e s env t E hn S i J
 obtain ⟨i,j⟩:=i
 have w:∀x,nW T x:=fun x=>cN T D.dNo _ x (Nat.lt_succ_self _)
 rw [wX] at hn S
 have Q:=zV hn
 have o:=zV Q.1
 have k:Fresh s (bindPs e.args):=S.sub fun m N=>List.mem_append.2 (.inl (List.mem_append.2 (.inr N)))
 have Y:Fresh s (bindPa e.arms):=S.sub fun m N=>List.mem_append.2 (.inr N)
 have ihg:∀g1,g1<=g->∀e t,P e->(zP e).Nodup->Fresh s (zP e)->Ty T e s t->Good T (yM C g1 e env) t:=fun g1 hg e t p a b c=>ih g1 (by omega) e s env t p a b c J
 rw [zT]
 have okG:∀(v:Val) (g1:Nat),mR T v t=true->Good T (.ok v g1) t:=fun v g1 h=>⟨fun h=>(by cases h),fun v' g' h'=>by simp only [Ev.ok.injEq] at h';rw [<- h'.1];exact h⟩
 have spG:Good T .spent t:=⟨fun h=>(by cases h),fun v' g' h'=>by cases h'⟩
 unfold xE
 by_cases h1:e.kind=1
 ·rw [if_pos h1]
  rw [aO T e s h1] at i
  simp only [oP] at i
  split at i
  ·subst i;exact okG _ _ (z3x _)
  ·exact absurd i.symm j
 rw [if_neg h1]
 by_cases h2:e.kind=2
 ·rw [if_pos h2]
  rw [nO T e s h2] at i
  simp only [pF] at i
  split at i
  ·cases hl:zJ s e.name with
   | none=>rw [hl] at i;exact absurd i.symm j
   | some u=>
    rw [hl] at i
    simp only [Option.getD_some] at i;subst i
    obtain ⟨v,z,A⟩:=J _ _ hl
    rw [z];exact okG _ _ A
  ·exact absurd i.symm j
 rw [if_neg h2]
 by_cases V:e.kind=3
 ·rw [if_pos V]
  rw [nL T e s V] at i
  simp only [sI] at i
  split at i
  ·cases hl:zJ T.inputs e.name with
   | none=>rw [hl] at i;exact absurd i.symm j
   | some u=>
    rw [hl] at i
    simp only [Option.getD_some] at i;subst i
    obtain ⟨v,z,A⟩:=G.inp E V hl
    rw [z];exact okG _ _ A
  ·exact absurd i.symm j
 rw [if_neg V]
 by_cases h4:e.kind=4
 ·rw [if_pos h4]
  rw [nK T e s h4] at i
  unfold tO at i
  split at i
  ·exact absurd i.symm j
  ·rename_i m N
   split at i
   ·split at i
    ·rename_i B
     subst i
     obtain ⟨z,A⟩:=z3u (g:=g) ihg (fun x H=>G.args E H) (Nat.le_refl g) o.2.1 k (cJ (fun x _=>w x) o.2.1 k B).2
     cases hr:jZ (yM C) env e.args g with
     | stuck=>exact absurd hr z
     | spent=>exact spG
     | ok vs I=>exact okG _ _ (j3z D N (A _ _ hr).1)
    ·exact absurd i.symm j
   ·exact absurd i.symm j
 rw [if_neg h4]
 by_cases W:e.kind=5
 ·rw [if_pos W]
  rw [wK T e s W] at i
  unfold nS at i
  split at i
  ·exact absurd i.symm j
  ·rename_i f N
   split at i
   ·split at i
    ·rename_i B
     subst i
     obtain ⟨z,A⟩:=z3u (g:=g) ihg (fun x H=>G.args E H) (Nat.le_refl g) o.2.1 k (cJ (fun x _=>w x) o.2.1 k B).2
     rw [D.funs,N]
     simp only
     cases hr:jZ (yM C) env e.args g with
     | stuck=>exact absurd hr z
     | spent=>exact spG
     | ok vs I=>
      simp only [Ev.bind]
      obtain ⟨F,k4⟩:=A _ _ hr
      exact q0g D N (G.call E W N) F (fun e s env t=>ih I (by omega) e s env t)
    ·exact absurd i.symm j
   ·exact absurd i.symm j
 rw [if_neg W]
 by_cases X:e.kind=6
 ·rw [if_pos X]
  rw [nM T e s X] at i
  unfold z1p at i
  split at i
  ·rename_i hb
   have hl:=vC (n:=2) hb
   obtain ⟨x,y,q⟩:∃x y,e.args=[x,y]:=by
    cases B:e.args with
    | nil=>rw [B] at hl;simp at hl
    | cons a l=>
     cases l with
     | nil=>rw [B] at hl;simp at hl
     | cons b l=>
      rw [B] at hl
      simp only [lcQ] at hl
      have:l=[]:=List.eq_nil_of_length_eq_zero (by omega)
      subst this;exact ⟨a,b,rfl⟩
   rw [q] at i ⊢
   simp only
   have H:[x,y][0]? = some x:=rfl
   have hy:[x,y][1]? = some y:=rfl
   by_cases K:(zG T x s).1=sNo
   ·rw [z4a H K] at i;exact absurd i.symm j
   ·rw [sM H hy K] at i
    simp only at i
    simp only [if_pos X,q,bindPs,List.append_nil] at hn S
    have r0:=zV hn
    have c0:=zV r0.1
    have M:=zV c0.2.1
    have Z:Fresh s (zP x):=S.sub fun m N=>by simp [N]
    have e1:=w x s M.1 Z K
    obtain ⟨z,A⟩:=ihg g (Nat.le_refl g) x _ (G.args E (by rw [q];simp)) M.1 Z ⟨rfl,K⟩
    cases hr:yM C g x env with
    | stuck=>exact absurd hr z
    | spent=>exact spG
    | ok v I=>
     have:=yF C _ _ _ _ _ hr
     simp only [Ev.bind]
     have a0:Fresh (pD s e.name (zG T x s).1) (zP y):=fun m N=>by
      rw [kG,if_neg]
      ·exact S m (by simp [N])
      ·rintro rfl
       exact c0.2.2 e.name (by simp) (by simp [N])
     rw [e1] at i
     exact ih I (by omega) y (pD s e.name (zG T x s).1) _ t (G.args E (by rw [q];simp)) M.2.1 a0 ⟨i,j⟩ (J.put (A _ _ hr))
  ·exact absurd i.symm j
 rw [if_neg X]
 by_cases h7:e.kind=7
 ·rw [if_pos h7]
  rw [nJ T e s h7] at i
  unfold xH at i
  split at i
  ·rename_i hb
   have hl:=vC (n:=1) hb
   obtain ⟨x,q⟩:∃x,e.args=[x]:=by
    cases B:e.args with
    | nil=>rw [B] at hl;simp at hl
    | cons a l=>
     rw [B] at hl
     simp only [lcQ] at hl
     have:l=[]:=List.eq_nil_of_length_eq_zero (by omega)
     subst this;exact ⟨a,rfl⟩
   rw [q] at i ⊢
   simp only [firstP] at i ⊢
   split at i
   ·exact absurd i.symm j
   ·rename_i d L
    split at i
    ·rename_i q0
     have K:(zG T x s).1≠sNo:=fun e0=>by rw [e0,D.dNo] at L;cases L
     have p0:(zG T x s).1≠yH:=fun e0=>by rw [e0,D.dInt] at L;cases L
     rw [q] at o k
     simp only [bindPs,List.append_nil] at o k
     have e1:=w x s o.2.1 k K
     rw [e1] at i
     obtain ⟨z,A⟩:=ihg g (Nat.le_refl g) x _ (G.args E (by rw [q];simp)) o.2.1 k ⟨rfl,K⟩
     cases hr:yM C g x env with
     | stuck=>exact absurd hr z
     | spent=>exact spG
     | ok v I=>
      have:=yF C _ _ _ _ _ hr
      simp only [Ev.bind]
      obtain ⟨j1,m,j2,j3,j4⟩:=has_con (A _ _ hr) p0
      obtain ⟨_,j5,_,d',j6,j7⟩:=D.cD _ _ j2
      rw [j3,L] at j6
      simp only [Option.some.injEq] at j6;subst j6
      have u0:=z0w j (fun a _=>w a.body) q0 Q.2.1 Y i
      obtain ⟨a,q1,q2,q3,q4,q5⟩:=y4d (c:=m.con) u0.2.1 j7 (fun d2 n0 s0=>by
       have r1:=D.dC _ _ _ L n0
       have r2:=D.dC _ _ _ L j7
       rw [s0,r2] at r1
       simp only [Option.some.injEq,Maker.mk.injEq,true_and] at r1
       exact r1.symm)
      rw [j5] at q1
      rw [q1]
      simp only
      obtain ⟨l,r,b0⟩:=z5k q2
      have t0:(a.vars++zP a.body).Nodup:=by
       have:=Q.2.1
       rw [b0] at this
       exact (zV (zV this).1).2.1
      have o0:Fresh s (a.vars++zP a.body):=Y.sub fun m N=>by rw [b0];simp at N ⊢;rcases N with N | N <;> simp [N]
      have hnn':=zV t0
      obtain ⟨env',w1,w2⟩:=y2y (ns:=a.vars) q4 j4 J
      unfold nX
      rw [w1]
      exact ih I (by omega) a.body _ env' t (G.arms E q2) hnn'.2.1 (fun m N=>by
       rw [vE (fun E=>hnn'.2.2 m E N)];exact o0 m (List.mem_append.2 (.inr N))) q5 w2
    ·exact absurd i.symm j
  ·exact absurd i.symm j
 rw [if_neg h7]
 by_cases h8:e.kind=8
 ·rw [if_pos h8]
  rw [cG T e s h8] at i
  unfold nV at i
  split at i
  ·split at i
   ·rename_i B
    obtain ⟨z,A⟩:=z3u (g:=g) ihg (fun x H=>G.args E H) (Nat.le_refl g) o.2.1 k (cJ (fun x _=>w x) o.2.1 k B).2
    cases hr:jZ (yM C) env e.args g with
    | stuck=>exact absurd hr z
    | spent=>exact spG
    | ok vs I=>
     simp only [Ev.bind]
     obtain ⟨F,k4⟩:=A _ _ hr
     match vs,F with
     | [a,b],F=>
      simp only at i ⊢
      rw [if_neg (fun h=>j (i.symm.trans h))]
      apply okG
      unfold opT at i
      unfold yJ
      split at i
      ·rename_i U
       subst i
       split
       ·exact z3x _
       split
       ·exact z3x _
       split
       ·exact z3x _
       split
       ·rename_i h;rw [h] at U;simp at U
       split
       ·rename_i h;rw [h] at U;simp at U
       split
       ·exact z3x 0
       split <;> exact z3x _
      ·split at i
       ·rename_i R U
        subst i
        split
        ·rename_i h;exact absurd (.inl h) R
        split
        ·rename_i h;exact absurd (.inr (.inl h)) R
        split
        ·rename_i h;exact absurd (.inr (.inr (.inl h))) R
        split
        ·exact q9n D _
        split
        ·exact q9n D _
        ·rename_i u1 u2;rcases U with h | h
         ·exact absurd h u1
         ·exact absurd h u2
       ·exact absurd i.symm j
     | [],F=>exact F.elim
     | [a],F=>exact F.2.elim
     | a::b::c::l,F=>exact F.2.2.elim
   ·exact absurd i.symm j
  ·exact absurd i.symm j
 rw [if_neg h8]
 rw [nN T e s h1 h2 V h4 W X h7 h8] at i
 exact absurd i.symm j
section
variable {α:Type}
def xK {β:Type} (key:β->Bs) (val:β->α) (l:List β):List (Bs×α):=l.map fun x=>(key x,val x)
theorem z6l {β:Type} {key:β->Bs} {val:β->α}:∀{l:List β} {x:β},(l.map key).Nodup->x∈l->zJ (xK key val l) (key x)=some (val x)
 | y::l,x,a,h=>by
  simp only [List.map_cons,List.nodup_cons] at a
  simp only [xK,List.map_cons,zJ]
  rcases List.mem_cons.1 h with rfl | h
  ·rw [if_pos rfl]
  ·rw [if_neg (fun e=>a.1 (by rw [<- e];exact List.mem_map_of_mem h))]
   exact z6l a.2 h
theorem xS {β:Type} {key:β->Bs} {val:β->α}:∀{l:List β} {n:Bs} {v:α},zJ (xK key val l) n=some v->∃x∈l,key x=n/\val x=v
 | [],_,_,h=>by simp [xK,zJ] at h
 | y::l,n,v,h=>by
  simp only [xK,List.map_cons,zJ] at h
  split at h
  ·simp only [Option.some.injEq] at h;rename_i e;exact ⟨y,msQ,e.symm,h⟩
  ·obtain ⟨x,h1,a⟩:=xS h;exact ⟨x,mcQ _ h1,a⟩
theorem xO {s r:List (Bs×α)} {n:Bs} (h:zJ (s++r) n=none):zJ s n=none/\zJ r n=none:=by
 induction s with
 | nil=>exact ⟨rfl,h⟩
 | cons p s b=>
  obtain ⟨k,x⟩:=p
  simp only [List.cons_append,zJ] at h ⊢
  split at h
  ·cases h
  ·rename_i a;rw [if_neg a];exact b h
theorem lget_single {k n:Bs} {x:α}:zJ [(k,x)] n=none↔n≠k:=by
 simp [zJ]
end
theorem aU {α:Type} {m:List (Bs×α)} {s:Bs} {x:α} (h:zJ m s=none):jH m s x=m++[(s,x)]:=by
 unfold jH;rw [h];exact z0k h
theorem z3e (dn:Bs):∀{l:List Con} {ok:Bool} {m:List (Bs×Maker)},(vI dn ok m l).1=true ->
  ok=true/\(vI dn ok m l).2=m++xK Con.name (fun x=>⟨dn,x⟩) l/\(∀x∈l,qL x.name=true/\zJ m x.name=none)/\(l.map Con.name).Nodup
 | [],ok,m,h=>⟨h,by simp [vI,xK],by simp,by simp⟩
 | x::l,ok,m,h=>by
  simp only [vI] at h ⊢
  split at h
  ·rename_i c
   rw [if_pos c]
   simp only [baQ] at c
   obtain ⟨h1,d,b,g⟩:=z3e dn h
   have f:zJ m x.name=none:=by simpa using h1
   rw [aU f] at d b ⊢
   refine ⟨c.1,by rw [d];simp [xK],fun y a=>?_,?_⟩
   ·rcases List.mem_cons.1 a with rfl | a
    ·exact ⟨c.2,f⟩
    ·exact ⟨(b y a).1,(xO (b y a).2).1⟩
   ·simp only [List.map_cons,List.nodup_cons]
    refine ⟨fun N=>?_,g⟩
    obtain ⟨y,a,e⟩:=List.mem_map.1 N
    have:=(xO (b y a).2).2
    rw [lget_single] at this
    exact this e
  ·have:=(z3e dn h).1;cases this
def z1f (l:List Data):List (Bs×Maker):=(l.map fun d=>xK Con.name (fun x=>(⟨d.name,x⟩:Maker)) d.cons).flatten
theorem z3f:∀{l:List Data} {ok:Bool} {ds:List (Bs×Data)} {m:List (Bs×Maker)},(tS ok ds m l).1=true ->
  ok=true/\(tS ok ds m l).2.1=ds++xK Data.name id l/\(tS ok ds m l).2.2=m++z1f l /\
  (∀d∈l,qL d.name=true/\d.name≠yH/\zJ ds d.name=none/\(d.cons.map Con.name).Nodup/\∀x∈d.cons,qL x.name=true/\zJ m x.name=none)/\(l.map Data.name).Nodup /\
  ((l.map fun d=>d.cons.map Con.name).flatten).Nodup
 | [],ok,ds,m,h=>⟨h,by simp [tS,xK],by simp [tS,z1f],by simp,by simp,by simp⟩
 | d::l,ok,ds,m,h=>by
  simp only [tS] at h ⊢
  obtain ⟨h1,i,j,b,u,v⟩:=z3f h
  obtain ⟨g1,t,g3,g4⟩:=z3e d.name h1
  simp only [cB,baQ,decide_eq_true_eq,Bool.not_eq_true',decide_eq_false_iff_not,Option.isNone_iff_eq_none] at g1
  obtain ⟨⟨⟨⟨o,p⟩,q⟩,r⟩,G⟩:=g1
  have A:mJ ok ds d=ds++[(d.name,d)]:=by
   unfold mJ
   rw [if_pos (by simp [o,p,q])]
   exact aU r
  rw [A,t] at i j b ⊢
  refine ⟨o,by rw [i];simp [xK],by rw [j];simp [z1f],fun e J=>?_,?_,?_⟩
  ·rcases List.mem_cons.1 J with rfl | J
   ·exact ⟨p,q,r,g4,fun x a=>g3 x a⟩
   ·obtain ⟨C,D,E,F,k⟩:=b e J
    exact ⟨C,D,(xO E).1,F,fun x a=>⟨(k x a).1,(xO (k x a).2).1⟩⟩
  ·simp only [List.map_cons,List.nodup_cons]
   refine ⟨fun N=>?_,u⟩
   obtain ⟨e,J,s⟩:=List.mem_map.1 N
   have:=(xO (b e J).2.2.1).2
   rw [lget_single] at this
   exact this s
  ·simp only [List.map_cons,List.flatten_cons]
   rw [List.nodup_append]
   refine ⟨g4,v,fun n z m' hm' e=>?_⟩
   subst e
   obtain ⟨x,a,rfl⟩:=List.mem_map.1 z
   obtain ⟨ns,c,f⟩:=List.mem_flatten.1 hm'
   obtain ⟨e,J,rfl⟩:=List.mem_map.1 c
   obtain ⟨y,B,g⟩:=List.mem_map.1 f
   have:=(xO ((b e J).2.2.2.2 y B).2).2
   rw [g] at this
   have w:zJ (xK Con.name (fun x=>(⟨d.name,x⟩:Maker)) d.cons) x.name=some ⟨d.name,x⟩:=z6l (val:=fun x=>(⟨d.name,x⟩:Maker)) g4 a
   rw [w] at this;cases this
theorem uS:∀{l:List Fun} {ok:Bool} {m:List (Bs×Fun)},(tT ok m l).1=true ->
  ok=true/\(tT ok m l).2=m++xK Fun.name id l/\(∀f∈l,qO f.name=true/\zJ m f.name=none)/\(l.map Fun.name).Nodup
 | [],ok,m,h=>⟨h,by simp [tT,xK],by simp,by simp⟩
 | x::l,ok,m,h=>by
  simp only [tT] at h ⊢
  split at h
  ·rename_i c
   rw [if_pos c]
   simp only [baQ] at c
   obtain ⟨h1,d,b,i⟩:=uS h
   have g:zJ m x.name=none:=by simpa using h1
   rw [aU g] at d b ⊢
   refine ⟨c.1,by rw [d];simp [xK],fun y a=>?_,?_⟩
   ·rcases List.mem_cons.1 a with rfl | a
    ·exact ⟨c.2,g⟩
    ·exact ⟨(b y a).1,(xO (b y a).2).1⟩
   ·simp only [List.map_cons,List.nodup_cons]
    refine ⟨fun N=>?_,i⟩
    obtain ⟨y,a,e⟩:=List.mem_map.1 N
    have:=(xO (b y a).2).2
    rw [lget_single] at this
    exact this e
  ·have:=(uS h).1;cases this
theorem uT:∀{l:List Param} {ok:Bool} {m:List (Bs×Bs)},(tU ok m l).1=true ->
  ok=true/\(tU ok m l).2=m++xK Param.name Param.type l/\(∀p∈l,qO p.name=true/\zJ m p.name=none)/\(l.map Param.name).Nodup
 | [],ok,m,h=>⟨h,by simp [tU,xK],by simp,by simp⟩
 | x::l,ok,m,h=>by
  simp only [tU] at h ⊢
  split at h
  ·rename_i c
   rw [if_pos c]
   simp only [baQ] at c
   obtain ⟨h1,d,b,g⟩:=uT h
   have f:zJ m x.name=none:=by simpa using h1
   rw [aU f] at d b ⊢
   refine ⟨c.1,by rw [d];simp [xK],fun y a=>?_,?_⟩
   ·rcases List.mem_cons.1 a with rfl | a
    ·exact ⟨c.2,f⟩
    ·exact ⟨(b y a).1,(xO (b y a).2).1⟩
   ·simp only [List.map_cons,List.nodup_cons]
    refine ⟨fun N=>?_,g⟩
    obtain ⟨y,a,e⟩:=List.mem_map.1 N
    have:=(xO (b y a).2).2
    rw [lget_single] at this
    exact this e
  ·have:=(uT h).1;cases this
structure Right (c:Core):Prop where
 datas:(zE c).datas=xK Data.name id (truthsD::c.datas)
 cons:(zE c).cons=z1f (truthsD::c.datas)
 funs:(zE c).funs=xK Fun.name id c.funs
 inputs:(zE c).inputs=xK Param.name Param.type c.inputs
 dN:∀d∈truthsD::c.datas,qL d.name=true/\d.name≠yH/\(d.cons.map Con.name).Nodup/\∀x∈d.cons,qL x.name=true
 dU:((truthsD::c.datas).map Data.name).Nodup
 cU:(((truthsD::c.datas).map fun d=>d.cons.map Con.name).flatten).Nodup
 fN:∀f∈c.funs,qO f.name=true
 fU:(c.funs.map Fun.name).Nodup
 iN:∀p∈c.inputs,qO p.name=true
 iU:(c.inputs.map Param.name).Nodup
 outs:c.outputs≠[]
 fields:∀d∈c.datas,nZ (zE c) d=true
 inT:∀p∈c.inputs,jM c.datas p.type=true
 fOk:∀f∈c.funs,pI (zE c) f=true
 oOk:wO (zE c) [] c.outputs=true
theorem x8n {c:Core} (h:qX c=true):Right c:=by
 simp only [qX,baQ,decide_eq_true_eq,List.all_eq_true] at h
 obtain ⟨⟨⟨⟨⟨h1,j⟩,k⟩,l⟩,m⟩,n⟩:=h
 obtain ⟨s,i2,i3,i4⟩:=uT (show (tU (fsP c).1 [] c.inputs).1=true from h1)
 obtain ⟨g,i,f3,f4⟩:=uS (show (tT (dsP c).1 [] c.funs).1=true from s)
 obtain ⟨_,d2,d3,d4,b,e⟩:=z3f (show (tS true [] [] (truthsD::c.datas)).1=true from g)
 exact { datas:=d2,cons:=d3,funs:=i,inputs:=i2,dN:=fun d a=>⟨(d4 d a).1,(d4 d a).2.1,(d4 d a).2.2.2.1,fun x r=>((d4 d a).2.2.2.2 x r).1⟩,dU:=b,cU:=e,fN:=fun f o=>(f3 f o).1,fU:=f4,iN:=fun p q=>(i3 p q).1,iU:=i4,outs:=j,fields:=k,inT:=l,fOk:=m,oOk:=n }
theorem uG:qL sNo=false:=by decide
theorem z8h {l:List Data}:(((l.map fun d=>d.cons.map Con.name).flatten).Nodup)->∀{d x},d∈l->x∈d.cons->zJ (z1f l) x.name=some ⟨d.name,x⟩:=by
 induction l with
 | nil=>intro _ d x h;cases h
 | cons e l i=>
  intro b d x a c
  simp only [List.map_cons,List.flatten_cons] at b
  have hn':=zV b
  simp only [z1f,List.map_cons,List.flatten_cons]
  rcases List.mem_cons.1 a with rfl | a
  ·have:=z6l (val:=fun x=>(⟨d.name,x⟩:Maker)) hn'.1 c
   generalize xK Con.name (fun x=>(⟨d.name,x⟩:Maker)) d.cons=s at this ⊢
   clear b hn' i
   induction s with
   | nil=>cases this
   | cons p s g=>
    obtain ⟨k,y⟩:=p
    simp only [List.cons_append,zJ] at this ⊢
    split at this
    ·rename_i h;rw [if_pos h];exact this
    ·rename_i h;rw [if_neg h];exact g this
  ·rw [cO]
   ·exact i hn'.2.1 a c
   ·cases j:zJ (xK Con.name (fun x=>(⟨e.name,x⟩:Maker)) e.cons) x.name with
    | none=>rfl
    | some v=>
     obtain ⟨y,m,h1,_⟩:=xS j
     exact absurd (List.mem_flatten.2 ⟨_,List.mem_map_of_mem (f:=fun d:Data=>d.cons.map Con.name) a,List.mem_map_of_mem (f:=Con.name) c⟩) (hn'.2.2 x.name (h1▸List.mem_map_of_mem (f:=Con.name) m))
theorem q0j {l:List Data} {n:Bs} {m:Maker} (h:zJ (z1f l) n=some m):∃d∈l,m.data=d.name/\m.con∈d.cons/\m.con.name=n:=by
 induction l with
 | nil=>simp [z1f,zJ] at h
 | cons e l c=>
  simp only [z1f,List.map_cons,List.flatten_cons] at h
  cases a:zJ (xK Con.name (fun x=>(⟨e.name,x⟩:Maker)) e.cons) n with
  | none=>
   rw [cO a] at h
   obtain ⟨d,g,r⟩:=c h
   exact ⟨d,mcQ _ g,r⟩
  | some v=>
   have i:zJ (xK Con.name (fun x=>(⟨e.name,x⟩:Maker)) e.cons++(l.map fun d=>xK Con.name (fun x=>(⟨d.name,x⟩:Maker)) d.cons).flatten) n=some v:=by
    clear h c
    generalize xK Con.name (fun x=>(⟨e.name,x⟩:Maker)) e.cons=s at a ⊢
    induction s with
    | nil=>cases a
    | cons p s b=>
     obtain ⟨k,y⟩:=p
     simp only [List.cons_append,zJ] at a ⊢
     split at a
     ·rename_i h;rw [if_pos h];exact a
     ·rename_i h;rw [if_neg h];exact b a
   rw [i] at h
   simp only [Option.some.injEq] at h;subst h
   obtain ⟨y,j,h1,f⟩:=xS a
   subst f
   exact ⟨e,msQ,rfl,j,h1⟩
def y2b (l:List Named):List (Bs×Val):=l.foldl (fun m x=>pD m x.name x.value) []
theorem q1i {T:Table}:∀{l:List Named} {ps:List Param},kL T l ps=true->l.map Named.name=ps.map Param.name/\∀p∈ps,∃x∈l,x.name=p.name/\mR T x.value p.type=true
 | [],[],_=>⟨rfl,fun p h=>by cases h⟩
 | v::vs,p::ps,h=>by
  simp only [kL,baQ,decide_eq_true_eq] at h
  obtain ⟨h1,a⟩:=q1i h.2
  refine ⟨by simp [h1,h.1.1.1],fun q hq=>?_⟩
  rcases List.mem_cons.1 hq with rfl | hq
  ·exact ⟨v,msQ,h.1.1.1,h.1.2⟩
  ·obtain ⟨x,b,r⟩:=a q hq;exact ⟨x,mcQ _ b,r⟩
 | [],_::_,h=>by cases h
 | _::_,[],h=>by cases h
theorem x7e {l:List Named} (b:(l.map Named.name).Nodup) {x:Named} (c:x∈l):zJ (y2b l) x.name=some x.value:=by
 have:∀(l:List Named) (m:List (Bs×Val)),(l.map Named.name).Nodup->∀x,(x∈l->zJ (l.foldl (fun m x=>pD m x.name x.value) m) x.name=some x.value)/\∀n,n∉l.map Named.name->zJ (l.foldl (fun m x=>pD m x.name x.value) m) n=zJ m n:=by
  intro l
  induction l with
  | nil=>intro m _ x;exact ⟨fun h=>(by cases h),fun n _=>rfl⟩
  | cons y l e=>
   intro m b x
   simp only [List.map_cons,List.nodup_cons] at b
   obtain ⟨f,d⟩:=e (pD m y.name y.value) b.2 x
   simp only [List.foldl_cons]
   refine ⟨fun c=>?_,fun n a=>?_⟩
   ·rcases List.mem_cons.1 c with rfl | c
    ·rw [d _ b.1,kG,if_pos rfl]
    ·exact f c
   ·simp only [List.map_cons,List.mem_cons,not_or] at a
    rw [d n a.2,kG,if_neg a.1]
 exact (this l [] b x).1 c
theorem q6t {c:Core} (a:Right c) {t:Bs} (h:kQ (zE c) t=true):t≠sNo:=by
 rintro rfl
 simp only [kQ,Bool.or_eq_true,decide_eq_true_eq] at h
 rcases h with h | h
 ·rw [a.datas] at h
  cases b:zJ (xK Data.name id (truthsD::c.datas)) sNo with
  | none=>rw [b] at h;cases h
  | some d=>
   obtain ⟨x,e,h1,_⟩:=xS b
   have:=(a.dN x e).1
   rw [h1,uG] at this;cases this
 ·exact sInt_ne h.symm
theorem uR {c:Core} (a:Right c) {inp:List (Bs×Val)}:Sound (zE c) ⟨(zE c).funs,inp⟩ where
 funs:=rfl
 fOk n f h:=by
  rw [a.funs] at h
  obtain ⟨x,b,_,rfl⟩:=xS h
  have:=a.fOk x b
  refine ⟨this,?_⟩
  simp only [pI,baQ] at this
  exact q6t a this.1.1.2
 dNo:=by
  rw [a.datas]
  cases i:zJ (xK Data.name id (truthsD::c.datas)) sNo with
  | none=>rfl
  | some d=>
   obtain ⟨x,b,h1,_⟩:=xS i
   have:=(a.dN x b).1
   rw [h1,uG] at this;cases this
 dInt:=by
  rw [a.datas]
  cases i:zJ (xK Data.name id (truthsD::c.datas)) yH with
  | none=>rfl
  | some d=>
   obtain ⟨x,b,h1,_⟩:=xS i
   exact absurd h1 (a.dN x b).2.1
 cD con m h:=by
  rw [a.cons] at h
  obtain ⟨d,g,h1,j,k⟩:=q0j h
  refine ⟨fun e=>?_,k,h1▸(a.dN d g).2.1,d,?_,j⟩
  ·have:=(a.dN d g).2.2.2 _ j
   rw [k,e,uG] at this;cases this
  ·rw [a.datas,h1];exact z6l (val:=id) a.dU g
 dC t d x h b:=by
  rw [a.datas] at h
  obtain ⟨d',g,rfl,rfl⟩:=xS h
  rw [a.cons]
  exact z8h a.cU g b
 cF:=by
  rw [a.cons]
  exact z8h a.cU (d:=truthsD) (x:=⟨kR,[]⟩) msQ (by simp [truthsD,kR])
 cT:=by
  rw [a.cons]
  exact z8h a.cU (d:=truthsD) (x:=⟨nT,[]⟩) msQ (by simp [truthsD,nT])
theorem pL {c:Core} (h:yR c=0):Right c:=by
 unfold yR at h
 split at h
 ·cases h
 split at h
 ·cases h
 split at h
 ·rename_i hr;exact x8n hr
 ·cases h
theorem q5n {c:Core} (a:Right c) {l:List Named} (i:kL (zE c) l c.inputs=true):Closed (zE c) ⟨(zE c).funs,y2b l⟩ (fun _=>True):=by
 obtain ⟨h1,b⟩:=q1i i
 refine ⟨fun _ _=>trivial,fun _ _=>trivial,fun {e t} _ _ h=>?_,fun _ _ _=>trivial⟩
 rw [a.inputs] at h
 obtain ⟨p,j,g,rfl⟩:=xS h
 obtain ⟨x,k,d,f⟩:=b p j
 exact ⟨x.value,by rw [<- g,<- d];exact x7e (by rw [h1];exact a.iU) k,f⟩
end Go.Sw

namespace Go.Sw
theorem nQ {C:Ctx} {f:Fun} {az:List Val} {g r:Nat} {v:Val} (h:xC (yM C) f az g=.ok v r):r < g:=z1s (yF C) h
theorem q7t {c:Core} {P:Ex->Prop} (a:Right c) {inp:List (Bs×Val)} (b:Closed (zE c) ⟨(zE c).funs,inp⟩ P) {n:Bs} {f:Fun} {vs:List Val} (h:zJ (zE c).funs n=some f) (hb:P f.body) (d:tL (zE c) vs (f.params.map Param.type)) (g:Nat) :
  Good (zE c) (xC (yM ⟨(zE c).funs,inp⟩) f vs g) f.result :=
 q0g (uR a) h hb d (fun e s env t=>sound (uR a) b g e s env t)
theorem z0o {T:Table}:∀{l seen:List Bs},wO T seen l=true->∀o∈l,∃f,zJ T.funs o=some f/\f.params=[]
 | [],_,_,_,h=>by cases h
 | p::l,seen,a,o,b=>by
  simp only [wO] at a
  split at a
  ·cases a
  ·rename_i f c
   simp only [baQ,decide_eq_true_eq] at a
   rcases List.mem_cons.1 b with rfl | b
   ·exact ⟨f,c,List.eq_nil_of_length_eq_zero a.1.1⟩
   ·exact z0o a.2 o b
theorem j8t {c:Core} (b:Right c) {inp:List (Bs×Val)} (e:Closed (zE c) ⟨(zE c).funs,inp⟩ (fun _=>True)):∀{os:List Bs},(∀o∈os,o∈c.outputs)->∀g,jI ⟨(zE c).funs,inp⟩ os g≠.stuck /\
  ∀vs r,jI ⟨(zE c).funs,inp⟩ os g=.ok vs r->All2 (fun o v=>∃f,zJ (zE c).funs o=some f/\mR (zE c) v f.result=true) os vs
 | [],_,g=>⟨fun h=>(by cases h),fun vs r h=>by simp only [jI,Ev.ok.injEq] at h;obtain ⟨rfl,rfl⟩:=h;trivial⟩
 | o::os,i,g=>by
  obtain ⟨f,d,j⟩:=z0o b.oOk o (i o msQ)
  obtain ⟨m,n⟩:=q7t b e (vs:=[]) d trivial (by rw [j];trivial) g
  simp only [jI,d]
  cases hr:xC (yM ⟨(zE c).funs,inp⟩) f [] g with
  | stuck=>exact absurd hr m
  | spent=>exact ⟨fun h=>(by cases h),fun vs r h=>by cases h⟩
  | ok v g1=>
   obtain ⟨p,q⟩:=j8t b e (os:=os) (fun x k=>i x (mcQ _ k)) g1
   simp only [Ev.bind]
   cases a:jI ⟨(zE c).funs,inp⟩ os g1 with
   | stuck=>exact absurd a p
   | spent=>exact ⟨fun h=>(by cases h),fun vs r h=>by cases h⟩
   | ok l s=>
    refine ⟨fun h=>(by cases h),fun vs r h=>?_⟩
    simp only [Ev.ok.injEq] at h
    obtain ⟨rfl,rfl⟩:=h
    exact ⟨⟨f,d,n _ _ hr⟩,q _ _ a⟩
end Go.Sw

namespace Go.Sw
variable {P:Program} {n:Nat} {E:List (Nat×Value)} {D:List Deferred} {a:Act} {V Ψ:Fz} {K:List Res} {w:World}
variable {dst:Option Tmp} {ty:TypeId} {pos:String} {aft:Array Edge} {g:Option (Nat×Bool)}
variable {Kn:Value->World->Prop} {Qp:List PanicEntry->World->Prop}
def oK:List (Int×Value)->Int->Option Value
 | [],_=>none
 | (k,v)::m,s=>if s=k then some v else oK m s
def iput:List (Int×Value)->Int->Value->List (Int×Value)
 | [],s,x=>[(s,x)]
 | (k,v)::m,s,x=>if s=k then (k,x)::m else (k,v)::iput m s x
def z2b:List (Int×Value)->Int->Nat->Option (Nat×Value)
 | [],_,_=>none
 | (k,v)::m,s,i=>if s=k then some (i,v) else z2b m s (i+1)
theorem z6n:∀(es:List MapEntry) (m:List (Int×Value)) (s:Int) (i:Nat),es.map (fun e=>(e.key,e.val))=m.map (fun p=>(Value.int .i64 p.1,p.2)) ->
  Instr.findNow (.int .i64) (.int .i64 s) es i=some (z2b m s i)
 | [],[],_,_,_=>rfl
 | [],_::_,_,_,h=>by simp at h
 | _::_,[],_,_,h=>by simp at h
 | e::es,(k,v)::m,s,i,h=>by
  simp only [List.map_cons,List.cons.injEq,Prod.mk.injEq] at h
  obtain ⟨⟨h1,a⟩,b⟩:=h
  simp only [Instr.findNow,h1,Instr.sameNow,if_true,z2b]
  by_cases O:s=k
  ·subst O;simp [a]
  ·have hb:(s==k)=false:=by simpa using O
   simp only [hb,if_neg O]
   exact z6n es m s (i+1) b
theorem q1l:∀(m:List (Int×Value)) (s:Int) (i:Nat),(z2b m s i).map (·.2)=oK m s
 | [],_,_=>rfl
 | (k,v)::m,s,i=>by
  simp only [z2b,oK]
  split
  ·rfl
  ·exact q1l m s (i+1)
theorem z4t {kt:TypeId} (a:Under P kt (.int .i64)) (e:Bool) (v:Value) (j:Nat):(Instr.checkKey e (j+1) kt v).run P w=.ok () w:=by
 simp [Instr.checkKey,Sem.run_bind,a w]
theorem z7k {kt:TypeId} (a:Under P kt (.int .i64)) {es:Array MapEntry} {m:List (Int×Value)} (h:es.toList.map (fun e=>(e.key,e.val))=m.map (fun p=>(Value.int .i64 p.1,p.2))) (s:Int) :
  (Instr.findKey kt (.int .i64 s) es.toList).run P w=.ok (z2b m s 0) w:=by
 simp [Instr.findKey,Sem.run_bind,a w,z6n _ _ _ _ h]
theorem j1k {t kt et:TypeId} {b:Nat} {es:Array MapEntry} {clock:Nat} {m:List (Int×Value)} {z:Value} (c:Under P t (.map kt et)) (a:Under P kt (.int .i64)) (d:ZeroT P et z)
  (hb:w.heap[b]? = some (.map es clock)) (h:MapOkI es clock m) (s:Int) (ok:Bool) :
  (Instr.lookup t (.map (some b)) (.int .i64 s) ok).run P w=.ok (zN ok z (oK m s)) w:=by
 have h1:(getObj b).run P w=.ok (.map es clock) w:=by simp [getObj,Sem.run,hb]
 simp only [Instr.lookup,Sem.run_bind,c w,Result.andThen_ok,h1,Sem.run_pure,z4t a,z7k a h.eq]
 have:=q1l m s 0
 cases N:z2b m s 0 with
 | none=>rw [N] at this;simp only [Option.map_none] at this;rw [<- this];simp [d w,zN]
 | some p=>rw [N] at this;simp only [Option.map_some] at this;rw [<- this];simp [zN]
theorem vJ (i:Nat) {t kt et:TypeId} {x y:Operand} {b:Nat} {m:List (Int×Value)} {z:Value} {s:Int} {ok:Bool} (f:Under P t (.map kt et)) (e:Under P kt (.int .i64)) (j:ZeroT P et z)
  (J:EnvR n E D a) (N:Sees V K w) (g:ev E x=some (.map (some b))) (h:ev E y=some (.int .i64 s)) (d:qS K i=some (.imp b m)):Ok P a (.lookup t x y ok) ty w (zN ok z (oK m s)):=fun _ _ _ _=>by
 obtain ⟨es,clock,h1,c⟩:=N.own _ (yU d)
 simp only [execOp,J.ev g,J.ev h]
 simp [Sem.run_bind,j1k f e j h1 c]
theorem q5e {t:TypeId} (N:Mem V K w) (k:∀b w',Mem V (.imp b []::K) w'->Kn (.map (some b)) w'):Oper.eff P ⟨dst,.makeMap t none,ty,pos,aft,g⟩ a w Kn Qp:=by
 unfold Oper.eff
 have:(execOp a.eval ⟨dst,.makeMap t none,ty,pos,aft,g⟩).run P w=.ok (.value (.map (some w.heap.size))) { w with heap:=w.heap.push (.map #[] 0) }:=by
  simp [execOp,Instr.makeMap]
 rw [this]
 refine k _ _ (N.more rfl rfl (fun b hb=>gG hb) ⟨#[],0,by simp,by simp,by simp,by simp⟩ (by simp [Res.foot]))
theorem j8j:∀(m:List (Int×Value)) (s:Int) (v:Value) (j:Nat),iput m s v=match z2b m s j with | none=>m++[(s,v)] | some (i,_)=>m.set (i - j) (s,v)
 | [],_,_,_=>rfl
 | (k,x)::m,s,v,j=>by
  simp only [iput,z2b]
  split
  ·subst_vars;simp
  ·have:=j8j m s v (j+1)
   rw [this]
   have a:∀(m:List (Int×Value)) (j i:Nat) (y:Value),z2b m s j=some (i,y)->j<=i:=by
    intro m
    induction m with
    | nil=>intro j i y h;simp [z2b] at h
    | cons p m b=>
     intro j i y h
     obtain ⟨k,x⟩:=p
     simp only [z2b] at h
     split at h
     ·simp only [Option.some.injEq,Prod.mk.injEq] at h;omega
     ·have:=b (j+1) i y h;omega
   cases N:z2b m s (j+1) with
   | none=>simp
   | some p=>
    obtain ⟨i,y⟩:=p
    have h1:=a m (j+1) i y N
    have e:i - j=(i - (j+1))+1:=by omega
    simp only [e,List.set_cons_succ]
theorem q9p:∀(m:List (Int×Value)) (s:Int) (j i:Nat) (y:Value),z2b m s j=some (i,y)->m[i - j]? = some (s,y)/\j<=i
 | [],_,_,_,_,h=>by simp [z2b] at h
 | (k,x)::m,s,j,i,y,h=>by
  simp only [z2b] at h
  split at h
  ·simp only [Option.some.injEq,Prod.mk.injEq] at h
   obtain ⟨rfl,rfl⟩:=h;subst_vars;simp
  ·obtain ⟨h1,a⟩:=q9p m s (j+1) i y h
   have e:i - j=(i - (j+1))+1:=by omega
   exact ⟨by rw [e];simpa using h1,by omega⟩
theorem y3w (i:Nat) {t kt et:TypeId} {x y z:Operand} {b:Nat} {m:List (Int×Value)} {s:Int} {v:Value} (X:Under P t (.map kt et)) (T:Under P kt (.int .i64))
  (J:EnvR n E D a) (N:Mem V K w) (F:ev E x=some (.map (some b))) (Y:ev E y=some (.int .i64 s)) (Z:ev E z=some v) (R:qS K i=some (.imp b m))
  (k:∀w',Mem V (pB K i (.imp b (iput m s v))) w'->Kn undef w'):Oper.eff P ⟨dst,.mapUpdate t x y z,ty,pos,aft,g⟩ a w Kn Qp:=by
 obtain ⟨es,clock,hb,f⟩:=N.own _ (yU R)
 have h1:(getObj b).run P w=.ok (.map es clock) w:=by simp [getObj,Sem.run,hb]
 have L:b < w.heap.size:=(Array.getElem?_eq_some_iff.1 hb).1
 have u:∀o,(setObj b o).run P w=.ok () { w with heap:=w.heap.setIfInBounds b o }:=fun o=>by simp only [setObj,Sem.run,hb]
 have fin:∀es' clock',MapOkI es' clock' (iput m s v)->Mem V (pB K i (.imp b (iput m s v))) { w with heap:=w.heap.setIfInBounds b (.map es' clock') }:=fun es' clock' h=>
  N.upd R rfl rfl (fun c S M=>by simp only;rw [Array.getElem?_setIfInBounds_ne (fun e=>M (by simp [Res.foot,e]))]) ⟨es',clock',by simp [L],h⟩ (.inl rfl)
 unfold Oper.eff
 simp only [execOp,J.ev F,J.ev Y,J.ev Z,Instr.mapUpdate,Sem.run_bind,X w,Result.andThen_ok,h1,z4t T,z7k T f.eq]
 have d:=j8j m s v 0
 cases C:z2b m s 0 with
 | none=>
  rw [C] at d
  simp only at d
  simp only [u,Result.andThen_ok,Sem.run_pure,mK]
  refine k _ (fin _ _ ⟨?_,?_,?_⟩)
  ·rw [d];simp [f.eq]
  ·intro e J
   simp only [Array.toList_push,List.mem_append,List.mem_singleton] at J
   rcases J with J | rfl
   ·have:=f.old e J;omega
   ·simp
  ·simp only [Array.toList_push,List.map_append,List.map_cons,List.map_nil]
   rw [List.nodup_append]
   refine ⟨f.nodup,by simp,fun b hb c S U=>?_⟩
   simp only [List.mem_singleton] at S
   obtain ⟨e,J,rfl⟩:=List.mem_map.1 hb
   have:=f.old e J
   omega
 | some p=>
  obtain ⟨j,y⟩:=p
  rw [C] at d
  simp only [Nat.sub_zero] at d
  obtain ⟨H,_⟩:=q9p m s 0 j y C
  simp only [Nat.sub_zero] at H
  have l:es.toList[j]?.map (fun e=>(e.key,e.val))=some (Value.int .i64 s,y):=by
   rw [<- List.getElem?_map,f.eq,List.getElem?_map,H];rfl
  obtain ⟨e,A,G⟩:∃e,es[j]? = some e/\e.key=.int .i64 s:=by
   cases h:es[j]? with
   | none=>
    have h':es.toList[j]? = none:=by simpa using h
    rw [h'] at l;cases l
   | some e=>
    have h':es.toList[j]? = some e:=by simpa using h
    rw [h'] at l;simp only [Option.map_some,Option.some.injEq,Prod.mk.injEq] at l;exact ⟨e,rfl,l.1⟩
  have I:(Instr.keyThatStays (((es[j]?).map (·.key)).getD (.int .i64 s)) (.int .i64 s)).run P w=.ok (.int .i64 s) w:=by
   simp [A,G,Instr.keyThatStays,Instr.sameBits,tM]
  simp only [Sem.run_bind,I,u,Result.andThen_ok,Sem.run_pure,mK]
  have W:j < es.size:=(Array.getElem?_eq_some_iff.1 A).1
  have B:(es.modify j fun e=>{ e with key:=Value.int .i64 s,val:=v }).toList=es.toList.modify j (fun e=>{ e with key:=Value.int .i64 s,val:=v }):=by simp
  refine k _ (fin _ _ ⟨?_,?_,?_⟩)
  ·rw [B,d]
   apply List.ext_getElem?
   intro q
   have hq:es.toList[q]?.map (fun e=>(e.key,e.val))=m[q]?.map (fun p=>(Value.int .i64 p.1,p.2)):=by rw [<- List.getElem?_map,f.eq,List.getElem?_map]
   simp only [List.getElem?_map,List.getElem?_modify,List.getElem?_set]
   by_cases r:j=q
   ·subst r
    have hml':j < m.length:=(List.getElem?_eq_some_iff.1 H).1
    have h':es.toList[j]? = some e:=by simpa using A
    simp [h',hml']
   ·have hq':=hq
    simp only [Array.getElem?_toList] at hq'
    simp [r,hq']
  ·intro x F
   rw [B] at F
   obtain ⟨q,hq⟩:=List.mem_iff_getElem?.1 F
   rw [List.getElem?_modify] at hq
   cases hz':es.toList[q]? with
   | none=>rw [hz'] at hq;simp at hq
   | some e'=>
    rw [hz'] at hq
    have hb':=f.old e' (mgQ hz')
    have Q:=Option.some.inj hq
    rw [<- Q]
    show (if j=q then _ else _:MapEntry).born < clock
    by_cases r:j=q
    ·rw [if_pos r];exact hb'
    ·rw [if_neg r];exact hb'
  ·rw [B]
   have:(es.toList.modify j (fun e=>{ e with key:=Value.int .i64 s,val:=v })).map (·.born)=es.toList.map (·.born):=by
    apply List.ext_getElem?
    intro q
    simp only [List.getElem?_map,List.getElem?_modify]
    cases es.toList[q]? with
    | none=>simp
    | some e'=>simp;split <;> rfl
   rw [this];exact f.nodup
theorem pH (i:Nat) {t kt et:TypeId} {x y z:Operand} {b:Nat} {m:List (Int×Value)} {s:Int} {v:Value} (e:Under P t (.map kt et)) (d:Under P kt (.int .i64))
  (J:EnvR n E D a) (N:Mem V K w) (f:ev E x=some (.map (some b))) (h:ev E y=some (.int .i64 s)) (j:ev E z=some v) (c:qS K i=some (.imp b m))
  (k:∀w',Mem V (pB K i (.imp b (iput m s v))) w'->Kn undef w'):Oper.eff P ⟨dst,.insert t x y z,ty,pos,aft,g⟩ a w Kn Qp :=
 show Oper.eff P ⟨dst,.mapUpdate t x y z,ty,pos,aft,g⟩ a w Kn Qp from y3w i e d J N f h j c k
end Go.Sw

namespace Go.Sw
theorem Row.one {V:Fz} {v:Value} {k:Nat} {cs:List Value} (h:Row V v k cs):Value.oneCell' v=true:=by
 rcases h with ⟨rfl,_⟩ | ⟨q,m,c,rfl,_⟩ <;> rfl
theorem SliceOf.one {α:Type} {R:Fz->List Value->α->Prop} {V:Fz} {k:Nat} {v:Value} {xs:List α} (h:SliceOf R V k v xs):Value.oneCell' v=true :=
 let ⟨_,h1,_⟩:=h;h1.one
def y7v {α:Type} (R:Fz->List Value->α->Prop):Prop:=∀V c x,R V c x->c.all Value.oneCell'=true
theorem Chunks.ones {α:Type} {R:Fz->List Value->α->Prop} (a:y7v R) {V:Fz} {k:Nat}:∀{xs:List α} {cs:List Value},Chunks (R V) k cs xs->cs.all Value.oneCell'=true
 | [],cs,h=>by simp only [Chunks] at h;subst h;rfl
 | x::xs,cs,⟨c,rest,h1,_,b,d⟩=>by
  subst h1
  rw [List.all_append,a _ _ _ b,Chunks.ones a d];rfl
theorem RVal.ones:y7v RVal:=fun _ c x h=>by
 obtain ⟨s,rfl,_,h1⟩:=RVal.iff.1 h
 simp only [List.all_cons,h1.one];rfl
theorem RParam.ones:y7v RParam:=fun _ c x h=>by cases h;rfl
theorem RData.ones:y7v RData:=fun _ c x h=>by
 obtain ⟨s,rfl,h1⟩:=h
 simp only [List.all_cons,h1.one];rfl
theorem RNamed.ones:y7v RNamed:=fun V c x h=>by
 obtain ⟨b,rfl,a⟩:=h
 have:=RVal.ones V b x.value a
 simp only [List.all_cons,this];rfl
section
variable {P:Program} {n:Nat} {E:List (Nat×Value)} {D:List Deferred} {a:Act} {V Ψ:Fz} {K:List Res} {w:World}
end
theorem sA (ok:Bool) (ds:List (Bs×Data)) (m:List (Bs×Maker)) (d:Data) (l:List Data) :
  tS ok ds m (d::l)=tS (vI d.name (cB ok ds d) m d.cons).1 (mJ ok ds d) (vI d.name (cB ok ds d) m d.cons).2 l:=rfl
theorem x9k {c:Core} {a:List (Bs×Data)} {b:List (Bs×Maker)} {f g h:Bool} {d:List (Bs×Fun)} {e:List (Bs×Bs)} (h1:tS true [] [] (truthsD::c.datas)=(f,a,b)) (k:tT f [] c.funs=(g,d)) (l:tU g [] c.inputs=(h,e)) :
  zE c=⟨c,a,b,d,e⟩/\wI c=h:=by
 have i:dsP c=(f,a,b):=h1
 have e2:fsP c=(g,d):=by unfold fsP;rw [i];exact k
 have j:isP c=(h,e):=by unfold isP;rw [e2];exact l
 unfold zE wI
 rw [i,e2,j];exact ⟨rfl,rfl⟩
end Go.Sw

namespace Go.Sw
mutual
theorem z4c:∀(e:Ex) (l:Int),(jB e l).1=false->((zP e).length:Int)+16+17 * (jB e l).2<=17 * l
 | .mk k n s args arms,l=>by
  intro h
  rw [z6z] at h ⊢
  by_cases hl:l - 1 < 0
  ·rw [if_pos hl] at h;cases h
  ·rw [if_neg hl] at h ⊢
   simp only [Ex.args,Ex.arms] at h ⊢
   have h1:=meass_bind args (l - 1)
   cases N:meass args (l - 1) with
   | mk b q=>
    rw [N] at h h1
    cases b with
    | true=>cases h
    | false=>
     have a:=measa_bind arms q h
     have f:=h1 rfl
     simp only [z2r] at h a f ⊢
     simp only [zP,laQ]
     split <;> simp <;> omega
theorem meass_bind:∀(es:List Ex) (l:Int),(meass es l).1=false->((bindPs es).length:Int)+17 * (meass es l).2<=17 * l
 | [],l=>by intro _;simp [meass,bindPs]
 | e::es,l=>by
  intro h
  rw [z0m] at h ⊢
  by_cases hb:(jB e l).1=true
  ·rw [if_pos hb] at h;cases h
  ·rw [if_neg hb] at h ⊢
   have h1:=z4c e l (by simpa using hb)
   have a:=meass_bind es _ h
   simp only [bindPs,laQ]
   omega
theorem measa_bind:∀(es:List Arm) (l:Int),(measa es l).1=false->((bindPa es).length:Int)+17 * (measa es l).2<=17 * l
 | [],l=>by intro _;simp [measa,bindPa]
 | .mk c vs b::es,l=>by
  intro h
  have e:=sN (.mk c vs b) es l
  change measa (.mk c vs b::es) l=(if 16 < vs.length then (true,l) else if (jB b l).1 then (true,(jB b l).2) else measa es (jB b l).2) at e
  rw [e] at h ⊢
  by_cases d:16 < vs.length
  ·rw [if_pos d] at h;cases h
  ·rw [if_neg d] at h ⊢
   by_cases hb:(jB b l).1=true
   ·rw [if_pos hb] at h;cases h
   ·rw [if_neg hb] at h ⊢
    have h1:=z4c b l (by simpa using hb)
    have a:=measa_bind es _ h
    simp only [bindPa,laQ]
    omega
end
theorem q2a:∀{fs:List Fun} {l:Int},cQ fs l=false->l<=6000->∀f∈fs,f.params.length<=16/\(zP f.body).length<=102000
 | [],_,_,_,_,h=>by cases h
 | g::fs,l,h,hl,f,a=>by
  simp only [cQ,Bool.or_eq_false_iff,decide_eq_false_iff_not] at h
  have h1:=z4c g.body l h.1.2
  have b:=wC g.body l h.1.2
  rcases List.mem_cons.1 a with rfl | a
  ·exact ⟨by omega,by omega⟩
  ·exact q2a h.2 (by omega) f a
theorem z2m {c:Core} (h:vO c=false) {f:Fun} (a:f∈c.funs):f.params.length<=16/\(zP f.body).length<=102000:=by
 simp only [vO,Bool.or_eq_false_iff] at h
 exact q2a h.2 (by omega) f a
theorem cC {c:Core} (h:wI c=true) {n:Bs} {f:Fun} (a:zJ (zE c).funs n=some f):f∈c.funs:=by
 obtain ⟨g,_⟩:=uT (show (tU (fsP c).1 [] c.inputs).1=true from h)
 obtain ⟨_,b,_⟩:=uS (show (tT (dsP c).1 [] c.funs).1=true from g)
 have e:(zE c).funs=xK Fun.name id c.funs:=b
 rw [e] at a
 obtain ⟨x,d,_,rfl⟩:=xS a
 exact d
theorem z7r {c:Core} (hl:vO c=false) (h:wI c=true):∀n f,zJ (zE c).funs n=some f->f.params.length<=1000:=fun n f a=>by
 have:=(z2m hl (cC h a)).1;omega
theorem mT {α:Type} {l:List α} {p:α->Bool} {i:Nat} {x:α} (h:l[i]? = some x):(l.drop i).all p=(p x&&(l.drop (i+1)).all p):=by
 rw [zA h];rfl
theorem q3m {α:Type} {l:List α} {p:α->Bool} {i:Nat} (h:¬i < l.length):(l.drop i).all p=true:=by
 rw [zB h];rfl
theorem y0f {α:Type} {l:List α} {p:α->Bool} (h:l.any (fun x=> !p x)=false):l.all p=true:=by
 induction l with
 | nil=>rfl
 | cons x l a=>
  simp only [List.any_cons,Bool.or_eq_false_iff,Bool.not_eq_false'] at h
  simp only [List.all_cons,h.1,a h.2];rfl
theorem y0g {α:Type} {l:List α} {p:α->Bool} (h:l.any (fun x=> !p x)=true):l.all p=false:=by
 induction l with
 | nil=>cases h
 | cons x l a=>
  simp only [List.any_cons,Bool.or_eq_true,Bool.not_eq_true'] at h
  simp only [List.all_cons]
  rcases h with h | h
  ·rw [h];rfl
  ·rw [a h];simp
def eqF {α β:Type} (p:α->β->Bool):List α->List β->Bool
 | [],[]=>true
 | x::xs,y::ys=>p x y&&eqF p xs ys
 | _,_=>false
theorem q5f {α β:Type} {p:α->β->Bool}:∀{l:List α} {m:List β},l.length≠m.length->eqF p l m=false
 | [],[],h=>absurd rfl h
 | [],_::_,_=>rfl
 | _::_,[],_=>rfl
 | x::xs,y::ys,h=>by simp only [eqF,q5f (l:=xs) (m:=ys) (by simpa using h),Bool.and_false]
theorem q1g (T:Table):∀(l:List Named) (ps:List Param),kL T l ps=eqF (fun v p=>decide (v.name=p.name) && !vX v.value&&mR T v.value p.type) l ps
 | [],[]=>rfl
 | v::vs,p::ps=>by simp only [kL,eqF,q1g T vs ps]
 | [],_::_=>rfl
 | _::_,[]=>rfl
theorem z9d (T:Table):∀(l:List Val) (ps:List Param),nC T l ps=eqF (fun v p=> !vX v&&mR T v p.type) l ps
 | [],[]=>rfl
 | v::vs,p::ps=>by simp only [nC,eqF,z9d T vs ps]
 | [],_::_=>rfl
 | _::_,[]=>rfl
theorem z5j:∀(l:List Val) (s:Int) (i:Nat),(larges l s).1=z4j (fun s x=>xL x s) s l/\(larges l s).2=(yQ (fun s x=>xL x s) s l i).2
 | [],s,i=>⟨rfl,rfl⟩
 | v::vs,s,i=>by
  simp only [larges,z4j,yQ]
  cases h:xL v s with
  | mk b q=>cases b with
   | true=>exact ⟨rfl,rfl⟩
   | false=>exact z5j vs q (i+1)
theorem z9j (v:Val) (l:Int):xL v l=if IntKind.i64.wrap (l - 1) < 0 then (true,IntKind.i64.wrap (l - 1)) else larges v.args (IntKind.i64.wrap (l - 1)):=by
 cases v;rfl
section
variable {P:Program} {n:Nat} {E:List (Nat×Value)} {D:List Deferred} {a:Act} {V Ψ:Fz} {K K':List Res} {w:World}
variable {Kn:Value->World->Prop} {Qp:List PanicEntry->World->Prop} {dst:Option Tmp} {ty:TypeId} {pos:String} {aft:Array Edge} {g:Option (Nat×Bool)}
variable {f:FuncId} {xs:Array Operand} {ts:Array TypeId} {vs fs cs:List Value} {y:Operand}
theorem sF {β:Type} {X:β->Value} {F1:β->Fz} {KO:β->List Res} {G:β->Prop} (J:EnvR n E D a) (m:ev E y=some (.func (.func f) fs.toArray cs.toArray)) (l:evs E xs.toList=some vs) (j:∀args w,(callFunc f args).run P w=.ok (.enter f args) w)
  (i:Calls P f (fs++vs++cs).toArray w (fun e w'=>∃y,e=.returned (X y)/\G y/\Mem (F1 y) (KO y) w')) (k:∀y w',G y->Mem (F1 y) (KO y) w'->Kn (X y) w') :
  Oper.eff P ⟨dst,.call { callee:=.value y,args:=xs,argTypes:=ts },ty,pos,aft,g⟩ a w Kn Qp :=
 z8v J m l j i (fun v w' h=>by obtain ⟨y,h1,b,d⟩:=h;cases h1;exact k _ _ b d) (fun c w' h=>by obtain ⟨y,h1,_⟩:=h;cases h1) (fun w' h=>by obtain ⟨y,h1,_⟩:=h;cases h1)
theorem Sees.gsSome {i j m c k:Nat} {p:Option Addr} {T:TypeId} {cells:List Value} (N:Sees V K w) (d:qS K i=some (.gs (.slice p m c) T k cells)) (e:j < m):∃q,p=some q:=by
 obtain ⟨nn,_,a⟩:=N.own _ (yU d)
 rcases a with ⟨h,_⟩ | ⟨b,cap,cur,h,_⟩
 ·simp only [Value.slice.injEq] at h;omega
 ·simp only [Value.slice.injEq] at h;exact ⟨_,h.1⟩
theorem q3h (i j:Nat) {x:Operand} {T b:TypeId} {q:Addr} {m c k:Nat} {cells:List Value} {v:Value} (J:EnvR n E D a) (N:Sees V K w)
  (l:ev E x=some (.pointer (some (q.add (j * k))))) (f:qS K i=some (.gs (.slice (some q) m c) b k cells)) (g:cells[j * k]? = some v) (e:Scalar P T):Ok P a (.load T x) ty w v:=fun _ _ _ _=>by
 have h1:w.cell? (q.add (j * k))=some v:=by
  rcases N.rowIn f with ⟨h,_⟩ | ⟨q',m',c',h,_,d⟩
  ·cases h
  ·simp only [Value.slice.injEq,Option.some.injEq] at h
   obtain ⟨rfl,rfl,rfl⟩:=h
   exact d _ _ g
 simp only [execOp,J.ev l]
 simp [Instr.loadAt,Instr.sureAddr,loadVar,Sem.run_bind,e w,Result.andThen,load,Sem.run,h1]
end
def z4k (l:List Int):List Value:=l.map (.int .i64)
theorem y0u (l:List Int):(z4k l).length=l.length:=by simp [z4k]
def gY (l:List Int):Int:=l.foldl (fun a x=>IntKind.i64.wrap (a+x)) 0
theorem sZ (T:Table) (v:Val) (name:Bs):mR T v name =
  if v.con=sNo∨name=yH then decide (v.con=sNo)&&decide (name=yH)&&decide (v.args.length=0)
  else match zJ T.cons v.con with
   | none=>false
   | some m=>decide (m.data=name)&&decide (v.num=0)&&decide (m.con.fields.length=v.args.length)&&hasL T v.args m.con.fields:=by
 cases v;rfl
theorem x1j (T:Table) (v:Val) (vs:List Val) (f:Bs) (fs:List Bs):hasL T (v::vs) (f::fs)=(mR T v f&&hasL T vs fs):=rfl
def y0d (v:Val):Prop:=∃l:Int,0<=l/\l<=4000/\(xL v l).1=false
mutual
theorem q1v:∀(v:Val) (l:Int),0<=l->l<=4000->(xL v l).1=false->0<=(xL v l).2/\(xL v l).2 < l
 | .mk c n args,l=>by
  intro a h1 h
  simp only [xL] at h ⊢
  have e:IntKind.i64.wrap (l - 1)=l - 1:=yD (by omega)
  rw [e] at h ⊢
  split at h
  ·cases h
  ·rename_i hl
   rw [if_neg hl]
   have:=larges_le args (l - 1) (by omega) (by omega) h
   omega
theorem larges_le:∀(vs:List Val) (l:Int),0<=l->l<=4000->(larges vs l).1=false->0<=(larges vs l).2/\(larges vs l).2+vs.length<=l
 | [],l=>by intro a _ _;simp only [larges];simp;omega
 | v::vs,l=>by
  intro a h1 h
  simp only [larges] at h ⊢
  have d:=q1v v l a h1
  cases N:xL v l with
  | mk b q=>
   rw [N] at h d
   cases b with
   | true=>cases h
   | false=>
    have f:=d rfl
    simp only at f h ⊢
    have g:=larges_le vs q (by omega) (by omega) h
    simp only [lcQ]
    omega
end
theorem z6x:∀{vs:List Val} {l:Int},0<=l->l<=4000->(larges vs l).1=false->∀x∈vs,y0d x
 | [],_,_,_,_,x,a=>by cases a
 | v::vs,l,c,h1,h,x,a=>by
  simp only [larges] at h
  have d:=q1v v l c h1
  cases N:xL v l with
  | mk b q=>
   rw [N] at h d
   cases b with
   | true=>cases h
   | false=>
    have e:=d rfl
    simp only at e h
    rcases List.mem_cons.1 a with rfl | a
    ·exact ⟨l,c,h1,by rw [N]⟩
    ·exact z6x (l:=q) (by omega) (by omega) h x a
theorem y6s {v:Val} (h:y0d v):v.args.length<=4000/\∀x∈v.args,y0d x:=by
 obtain ⟨l,a,h1,h⟩:=h
 rw [z9j,show IntKind.i64.wrap (l - 1)=l - 1 from yD (by omega)] at h
 split at h
 ·cases h
 ·have:=larges_le v.args (l - 1) (by omega) (by omega) h
  exact ⟨by omega,z6x (by omega) (by omega) h⟩
theorem j1p {v:Val} (h:vX v=false):y0d v:=⟨4000,by omega,by omega,h⟩
def pU (e:Ex):Prop:=∃l:Int,l<=6000/\(jB e l).1=false
theorem y1a:∀{es:List Ex} {l:Int},l<=6000->(meass es l).1=false->0<=l->((es.length:Int)<=l)/\∀x∈es,pU x
 | [],l,_,_,g=>⟨by simpa using g,fun x a=>by cases a⟩
 | e::es,l,h1,h,g=>by
  rw [z0m] at h
  by_cases hb:(jB e l).1=true
  ·rw [if_pos hb] at h;cases h
  ·have hb':(jB e l).1=false:=by simpa using hb
   rw [if_neg hb] at h
   have c:=wC e l hb'
   have i:(jB e l).2 < l:=by
    rw [z6z] at hb' c ⊢
    by_cases hl:l - 1 < 0
    ·rw [if_pos hl] at hb';cases hb'
    ·rw [if_neg hl] at hb' c ⊢
     cases N:meass e.args (l - 1) with
     | mk b q=>
      have d:=meass_le e.args (l - 1)
      rw [N] at hb' c d
      cases b with
      | true=>cases hb'
      | false=>
       have f:=d rfl (by omega)
       simp only [z2r] at hb' c f ⊢
       have j:=measa_le e.arms q hb' (by omega)
       omega
   obtain ⟨d,f⟩:=y1a (l:=(jB e l).2) (by omega) h (by omega)
   refine ⟨by simp only [lcQ];omega,fun x a=>?_⟩
   rcases List.mem_cons.1 a with rfl | a
   ·exact ⟨l,h1,hb'⟩
   ·exact f x a
theorem y0z:∀{es:List Arm} {l:Int},l<=6000->(measa es l).1=false->0<=l->∀a∈es,pU a.body/\a.vars.length<=16
 | [],l,_,_,_,a,c=>by cases c
 | b::es,l,h1,h,e,a,c=>by
  rw [sN] at h
  by_cases d:16 < b.vars.length
  ·rw [if_pos d] at h;cases h
  ·rw [if_neg d] at h
   by_cases hb:(jB b.body l).1=true
   ·rw [if_pos hb] at h;cases h
   ·rw [if_neg hb] at h
    have hb':(jB b.body l).1=false:=by simpa using hb
    have f:=wC b.body l hb'
    rcases List.mem_cons.1 c with rfl | c
    ·exact ⟨⟨l,h1,hb'⟩,by omega⟩
    ·exact y0z (l:=(jB b.body l).2) (by omega) h (by omega) a c
theorem yO {e:Ex} (h:pU e):e.args.length<=6000/\(∀x∈e.args,pU x)/\∀a∈e.arms,pU a.body/\a.vars.length<=16:=by
 obtain ⟨l,h1,h⟩:=h
 rw [z6z] at h
 by_cases hl:l - 1 < 0
 ·rw [if_pos hl] at h;cases h
 ·rw [if_neg hl] at h
  cases N:meass e.args (l - 1) with
  | mk b q=>
   rw [N] at h
   cases b with
   | true=>cases h
   | false=>
    have d:=y1a (es:=e.args) (l:=l - 1) (by omega) (by rw [N]) (by omega)
    have c:=meass_le e.args (l - 1) (by rw [N]) (by omega)
    rw [N] at c
    simp only [z2r] at h c
    exact ⟨by omega,d.2,y0z (by omega) h (by omega)⟩
theorem y0y:∀{fs:List Fun} {l:Int},cQ fs l=false->l<=6000->∀f∈fs,pU f.body
 | [],_,_,_,_,h=>by cases h
 | g::fs,l,h,hl,f,a=>by
  simp only [cQ,Bool.or_eq_false_iff,decide_eq_false_iff_not] at h
  have b:=wC g.body l h.1.2
  rcases List.mem_cons.1 a with rfl | a
  ·exact ⟨l,hl,h.1.2⟩
  ·exact y0y h.2 (by omega) f a
theorem nF {c:Core} (h:vO c=false) {f:Fun} (a:f∈c.funs):pU f.body:=by
 simp only [vO,Bool.or_eq_false_iff] at h
 exact y0y h.2 (by omega) f a
end Go.Sw

namespace Go.Sw
def REnv (V:Fz):Env->Option Addr->Prop
 | [],o=>o=none
 | (n,x)::env,o=>∃p c o',o=some p/\At V p (.string n::c++[.pointer o'])/\c.length=3/\RVal V c x/\REnv V env o'
theorem REnv.mono {V Ψ:Fz} (hl:V.Le Ψ):∀{env:Env} {o:Option Addr},REnv V env o->REnv Ψ env o
 | [],_,h=>h
 | (_,_)::_,_,⟨p,c,o',h1,a,b,d,e⟩=>⟨p,c,o',h1,a.mono hl,b,RVal.mono _ _ _ _ hl d,REnv.mono hl e⟩
def RGiven (V:Fz) (v:Value) (inp:List (Bs×Val)):Prop:=(∃b d,v=.map (some b)/\MapAt V b d/\MapRel (RVa RVal V) d inp)∨(v=.map none/\inp=[])
theorem RGiven.mono {V Ψ:Fz} (hl:V.Le Ψ) {v:Value} {inp:List (Bs×Val)} (h:RGiven V v inp):RGiven Ψ v inp:=by
 rcases h with ⟨b,d,h1,a,c⟩ | h
 ·exact .inl ⟨b,d,h1,a.mono hl,c.mono (RVa.mono RVal.mono hl)⟩
 ·exact .inr h
theorem RGiven.one {V:Fz} {v:Value} {inp:List (Bs×Val)} (h:RGiven V v inp):Value.oneCell' v=true:=by
 rcases h with ⟨b,d,h1,_⟩ | h
 ·subst h1;rfl
 ·rw [h.1];rfl
theorem RVal.zero {V:Fz}:RVal V [.string sNo,.int .i64 0,.slice none 0 0] v0:=RVal.iff.2 ⟨_,rfl,⟨by decide,by decide⟩,SliceOf.nil 3⟩
section
variable {P:Program} {n:Nat} {E:List (Nat×Value)} {D:List Deferred} {a:Act} {V Ψ:Fz} {K K':List Res} {w:World}
theorem q5o {t kt et:TypeId} {x y:Operand} {ty:TypeId} {s:Bs} {v:Value} {inp:List (Bs×Val)} (m:RGiven V v inp) (h:Under P t (.map kt et)) (g:Under P kt .string) (k:ZeroT P et (.agg #[.string sNo,.int .i64 0,.slice none 0 0]))
  (J:EnvR n E D a) (N:Sees V K w) (i:ev E x=some v) (j:ev E y=some (.string s)):∃cs,RVal V cs ((zJ inp s).getD v0)/\Ok P a (.lookup t x y false) ty w (.agg cs.toArray):=by
 rcases m with ⟨b,d,rfl,l,f⟩ | ⟨rfl,rfl⟩
 ·have hl:=yB (P:=P) (ty:=ty) (w:=w) (ok:=false) h g k J N i j l
  cases c:yY d s with
  | none=>
   rw [c] at hl
   rw [f.none c]
   exact ⟨_,RVal.zero,hl⟩
  | some u=>
   obtain ⟨q,hq,cs,e,hr⟩:=f.get c
   rw [c] at hl
   rw [hq]
   subst e
   exact ⟨cs,hr,hl⟩
 ·exact ⟨_,RVal.zero,q7b (P:=P) (ty:=ty) (w:=w) (ok:=false) h g k J i j⟩
theorem j4w {o:BinOp} {t t':TypeId} {x:Operand} {y:Operand} {p:Addr} {ty:TypeId} (b:o=.neq) (J:EnvR n E D a) (c:ev E x=some (.pointer (some p))) (d:ev E y=some (.pointer none))
  (hb:∀w,(binOp .neq t (.pointer (some p)) (.pointer none)).run P w=.ok (.bool true) w):Ok P a (.binOp o t x y t') ty w (.bool true):=by
 subst b;exact cZ J c d rfl (hb w)
theorem j4v {o:BinOp} {t t':TypeId} {x:Operand} {y:Operand} {ty:TypeId} (b:o=.neq) (J:EnvR n E D a) (c:ev E x=some (.pointer none)) (d:ev E y=some (.pointer none))
  (hb:∀w,(binOp .neq t (.pointer none) (.pointer none)).run P w=.ok (.bool false) w):Ok P a (.binOp o t x y t') ty w (.bool false):=by
 subst b;exact cZ J c d rfl (hb w)
end
section
variable {P:Program} {n:Nat} {E:List (Nat×Value)} {D:List Deferred} {a:Act} {V Ψ:Fz} {K K':List Res} {w:World}
variable {Kn:Value->World->Prop} {Qp:List PanicEntry->World->Prop} {dst:Option Tmp} {ty:TypeId} {pos:String} {aft:Array Edge} {g:Option (Nat×Bool)}
theorem x0z {t kt et:TypeId} {x y:Operand} {s:Bs} {v:Value} {inp:List (Bs×Val)} (c:RGiven V v inp) (e:Under P t (.map kt et)) (d:Under P kt .string) (i:ZeroT P et (.agg #[.string sNo,.int .i64 0,.slice none 0 0]))
  (J:EnvR n E D a) (N:Sees V K w) (f:ev E x=some v) (h:ev E y=some (.string s)) (k:∀cs,RVal V cs ((zJ inp s).getD v0)->Kn (.agg cs.toArray) w):Oper.eff P ⟨dst,.lookup t x y false,ty,pos,aft,g⟩ a w Kn Qp:=by
 obtain ⟨cs,h1,b⟩:=q5o (ty:=ty) c e d i J N f h
 exact mF b (k cs h1)
end
def evX {α:Type} (r:Ev α):Except Unit (α×Nat):=match r with
 | .ok x g=>.ok (x,g)
 | _=>.error ()
theorem jL {α:Type} {r:Ev α} {x:α×Nat} (h:evX r=.ok x):r=.ok x.1 x.2:=by
 cases r with
 | ok y g=>simp only [evX,Except.ok.injEq] at h;subst h;rfl
 | spent=>cases h
 | stuck=>cases h
theorem qW {α:Type} {r:Ev α} {c:Unit} (h:evX r=.error c) (O:r≠.stuck):r=.spent:=by
 cases r with
 | ok y g=>cases h
 | spent=>rfl
 | stuck=>exact absurd rfl O
theorem mL {α:Type} {r:Ev α} {x:α} {g:Nat} {A:α×Nat->Prop} {B:Unit->Prop} (h:r=.ok x g) (a:A (x,g)):Out (evX r) A B:=by subst h;exact a
theorem xY {α:Type} {r:Ev α} {A:α×Nat->Prop} {B:Unit->Prop} (h:r=.spent) (a:B ()):Out (evX r) A B:=by subst h;exact a
theorem qJ {α β:Type} {r:Ev α} {f:α->Nat->Ev β} (h:r.bind f≠.stuck):r≠.stuck:=by rintro rfl;exact h rfl
theorem uM {α β:Type} {r:Ev α} {f:α->Nat->Ev β} {x:α} {g:Nat} (h:r.bind f≠.stuck) (hr:r=.ok x g):f x g≠.stuck:=by subst hr;exact h
theorem jW {α β:Type} {r:Ev α} {f:α->Nat->Ev β} {x:α} {g:Nat} (hr:r=.ok x g):r.bind f=f x g:=by subst hr;rfl
theorem xR {α β:Type} {r:Ev α} {f:α->Nat->Ev β} (hr:r=.spent):r.bind f=.spent:=by subst hr;rfl
def tR:Unit->List PanicEntry:=fun _=>[{ v:=.iface 177 (.agg #[]),recovered:=false }]
abbrev stepsB (bs n:Nat):Res:=.blk bs (ob [.int .i64 ((n:Nat):Int)] 3)
abbrev runV (p:Addr) (mg:Value) (bs fuel:Nat):Value:=.agg #[.pointer (some p),mg,.pointer (some ⟨bs,0,none⟩),.int .i64 ((fuel:Nat):Int)]
def z1q (T:Table):Prop:=∀n f,zJ T.funs n=some f->f.params.length<=1000/\pU f.body
def sB (P:Program) (T:Table) (inp:List (Bs×Val)) (g:Nat):Prop :=
 ∀{V:Fz} {K:List Res} {w:World} {p:Addr} {d:List Value} {e:Ex} {env:Env} {o:Option Addr} {mg:Value} {bs fuel:Nat},RTable V p T->RGiven V mg inp->REx V d e->REnv V env o->pU e->g<=fuel->fuel<=1000000 ->
  yM ⟨T.funs,inp⟩ g e env≠.stuck->Mem V (stepsB bs (fuel - g)::K) w ->
  Calls P 103 #[runV p mg bs fuel,.agg d.toArray,.pointer o] w (fun ee w'=>Out (evX (yM ⟨T.funs,inp⟩ g e env))
   (fun x=>∃y:Fz×List Value,ee=.returned (.agg y.2.toArray)/\(V.Le y.1/\RVal y.1 y.2 x.1)/\Mem y.1 (stepsB bs (fuel - x.2)::K) w')
   (fun c=>ee=.panicked (tR c)/\Mem V (stepsB bs (fuel+1)::K) w'))
def x4b (P:Program) (T:Table) (inp:List (Bs×Val)) (g:Nat):Prop :=
 ∀{V:Fz} {K:List Res} {w:World} {p:Addr} {l:List Ex} {env:Env} {o:Option Addr} {s mg:Value} {bs fuel:Nat},RTable V p T->RGiven V mg inp->SliceOf REx V 5 s l->REnv V env o->(∀x∈l,pU x)->l.length<=6000->g<=fuel->fuel<=1000000 ->
  jZ (yM ⟨T.funs,inp⟩) env l g≠.stuck->Mem V (stepsB bs (fuel - g)::K) w ->
  Calls P 158 #[runV p mg bs fuel,s,.pointer o] w (fun ee w'=>Out (evX (jZ (yM ⟨T.funs,inp⟩) env l g))
   (fun x=>∃y:Fz×Value,ee=.returned y.2/\(V.Le y.1/\SliceOf RVal y.1 3 y.2 x.1)/\Mem y.1 (stepsB bs (fuel - x.2)::K) w')
   (fun c=>ee=.panicked (tR c)/\Mem V (stepsB bs (fuel+1)::K) w'))
def q7i (P:Program) (T:Table) (inp:List (Bs×Val)) (g:Nat):Prop :=
 ∀{V:Fz} {K:List Res} {w:World} {p:Addr} {d:List Value} {f:Fun} {l:List Val} {s mg:Value} {bs fuel:Nat},RTable V p T->RGiven V mg inp->RFun V d f->SliceOf RVal V 3 s l->f.params.length<=1000->pU f.body->g<=fuel->fuel<=1000000 ->
  xC (yM ⟨T.funs,inp⟩) f l g≠.stuck->Mem V (stepsB bs (fuel - g)::K) w ->
  Calls P 48 #[runV p mg bs fuel,.agg d.toArray,s] w (fun ee w'=>Out (evX (xC (yM ⟨T.funs,inp⟩) f l g))
   (fun x=>∃y:Fz×List Value,ee=.returned (.agg y.2.toArray)/\(V.Le y.1/\RVal y.1 y.2 x.1)/\Mem y.1 (stepsB bs (fuel - x.2)::K) w')
   (fun c=>ee=.panicked (tR c)/\Mem V (stepsB bs (fuel+1)::K) w'))
theorem y2h {α:Type} (r:Ev (List α)):r=r.bind fun vs g=>.ok ([]++vs) g:=by cases r <;> rfl
theorem z6i {ev:Nat->Ex->Env->Ev Val} {env:Env} {x:Ex} {rest:List Ex} {g1 a:Nat} {z:Val} {xs:List Val} (b:ev g1 x env=.ok z a) :
  (jZ ev env (x::rest) g1).bind (fun vs g=>.ok (xs++vs) g)=(jZ ev env rest a).bind fun vs g=>.ok ((xs++[z])++vs) g:=by
 simp only [jZ]
 rw [b]
 simp only [Ev.bind]
 cases jZ ev env rest a <;> simp
theorem z0b {ev:Nat->Ex->Env->Ev Val} {env:Env} {x:Ex} {rest:List Ex} {g1:Nat} {xs:List Val} (a:ev g1 x env=.spent) :
  (jZ ev env (x::rest) g1).bind (fun vs g=>.ok (xs++vs) g)=.spent:=by
 simp only [jZ]
 rw [a];rfl
theorem y0q {ev:Nat->Ex->Env->Ev Val} {env:Env} {g1:Nat} {xs:List Val}:(jZ ev env [] g1).bind (fun vs g=>.ok (xs++vs) g)=.ok xs g1:=by
 simp [jZ,Ev.bind]
theorem y3e {ev:Nat->Ex->Env->Ev Val} {f:Fun} {l:List Val} {g:Nat} (h:xC ev f l g≠.stuck):∃env,mU (f.params.map Param.name) l []=some env:=by
 unfold xC nX at h
 cases hb:mU (f.params.map Param.name) l [] with
 | none=>rw [hb] at h;exact absurd rfl h
 | some env=>exact ⟨env,rfl⟩
theorem tY:∀{ns:List Bs} {az:List Val} {env env':Env} {i:Nat},mU (ns.drop i) (az.drop i) env=some env'->i < ns.length->i < az.length
 | ns,az,env,env',i,h,b=>by
  by_cases a:i < az.length
  ·exact a
  ·rw [List.drop_eq_getElem_cons b,zB a] at h
   cases h
theorem x7h {l:List Int} {i:Nat} {x:Int} (h:l[i]? = some x):(z4k l)[i * 1]? = some (.int .i64 x):=by
 simp [z4k,h]
theorem yX (l:List Int) (x:Int):gY (l++[x])=IntKind.i64.wrap (gY l+x):=by simp [gY]
theorem jY {α:Type} {l:List α} {i:Nat} {x:α} (h:l[i]? = some x):l.take (i+1)=l.take i++[x]:=by
 rw [List.take_add_one,h];rfl
theorem y6y {α:Type} {l:List α} {i:Nat} (h:¬i < l.length):l.take i=l:=List.take_of_length_le (by omega)
end Go.Sw

namespace Go.Sw
section
variable {ev:Nat->Ex->Env->Ev Val} {C:Ctx} {g:Nat} {e:Ex} {env:Env}
theorem j1t (h:e.kind=1):xE ev C g e env=.ok (gQ e.num) g:=by unfold xE;simp [h]
theorem y6w (h:e.kind=2):xE ev C g e env=.ok ((zJ env e.name).getD v0) g:=by unfold xE;simp [h]
theorem j1s (h:e.kind=3):xE ev C g e env=.ok ((zJ C.inp e.name).getD v0) g:=by unfold xE;simp [h]
theorem z3d (h:e.kind=4):xE ev C g e env=(jZ ev env e.args g).bind fun l g=>.ok (.mk e.name 0 l) g:=by unfold xE;simp [h]
theorem cA {f:Fun} (h:e.kind=5) (a:zJ C.funs e.name=some f):xE ev C g e env=(jZ ev env e.args g).bind fun l g=>xC ev f l g:=by unfold xE;simp [h,a]
theorem z5s (h:e.kind=5) (a:zJ C.funs e.name=none):xE ev C g e env=.stuck:=by unfold xE;simp [h,a]
theorem q2r (h:e.kind=6) (c:xE ev C g e env≠.stuck):2<=e.args.length:=by
 unfold xE at c
 simp only [h] at c
 match d:e.args with
 | []=>rw [d] at c;simp at c
 | [a]=>rw [d] at c;simp at c
 | a::b::l=>simp
theorem vQ {a b:Ex} (h:e.kind=6) (c:e.args[0]? = some a) (h1:e.args[1]? = some b):xE ev C g e env=(ev g a env).bind fun x g=>ev g b ((e.name,x)::env):=by
 unfold xE
 simp only [h]
 match d:e.args with
 | []=>rw [d] at c;simp at c
 | [x]=>rw [d] at h1;simp at h1
 | x::y::l=>
  rw [d] at c h1
  simp only [List.getElem?_cons_zero,List.getElem?_cons_succ,Option.some.injEq] at c h1
  subst c;subst h1;simp
def q0a (ev:Nat->Ex->Env->Ev Val) (arms:List Arm) (env:Env) (x:Val) (g:Nat):Ev Val:=match vA arms x.con with
 | none=>.stuck
 | some m=>nX ev m.vars x.args env m.body g
theorem y6v (h:e.kind=7) (b:xE ev C g e env≠.stuck):1<=e.args.length:=by
 unfold xE at b
 simp only [h] at b
 match c:e.args with
 | []=>rw [c] at b;simp at b
 | a::l=>simp
theorem kI {a:Ex} (h:e.kind=7) (b:e.args[0]? = some a):xE ev C g e env=(ev g a env).bind fun x g=>q0a ev e.arms env x g:=by
 unfold xE
 simp only [h]
 match c:e.args with
 | []=>rw [c] at b;simp at b
 | x::l=>
  rw [c] at b
  simp only [List.getElem?_cons_zero,Option.some.injEq] at b
  subst b;simp [q0a];rfl
def opOf (nm:Bs) (l:List Val) (g:Nat):Ev Val:=match l with
 | a::b::_=>if opT nm=sNo then .stuck else .ok (yJ nm a.num b.num) g
 | _=>.stuck
theorem z4f (h:e.kind=8):xE ev C g e env=(jZ ev env e.args g).bind fun l g=>opOf e.name l g:=by unfold xE;simp [h];rfl
theorem j0q {nm:Bs} {l:List Val} (h:opOf nm l g≠.stuck):2<=l.length:=by
 match l with
 | []=>exact absurd rfl h
 | [a]=>exact absurd rfl h
 | a::b::l=>simp
theorem q6g {nm:Bs} {l:List Val} {a b:Val} (c:l[0]? = some a) (h1:l[1]? = some b) (d:opOf nm l g≠.stuck):opT nm≠sNo/\opOf nm l g=.ok (yJ nm a.num b.num) g:=by
 match l with
 | []=>simp at c
 | [x]=>simp at h1
 | x::y::l=>
  simp only [List.getElem?_cons_zero,List.getElem?_cons_succ,Option.some.injEq] at c h1
  subst c;subst h1
  by_cases h:opT nm=sNo
  ·exact absurd (if_pos h) d
  ·exact ⟨h,if_neg h⟩
theorem z9q (h1:e.kind≠1) (a:e.kind≠2) (b:e.kind≠3) (c:e.kind≠4) (d:e.kind≠5) (f:e.kind≠6) (h:e.kind≠7) (i:e.kind≠8):xE ev C g e env=.stuck:=by
 unfold xE;simp [*]
theorem z4v {arms:List Arm} {x:Val} (h:vA arms x.con=none):q0a ev arms env x g=.stuck:=by unfold q0a;rw [h]
theorem pK {arms:List Arm} {x:Val} {m:Arm} (h:vA arms x.con=some m):q0a ev arms env x g=nX ev m.vars x.args env m.body g:=by unfold q0a;rw [h]
theorem z4x {ns:List Bs} {az:List Val} {b:Ex} (h:nX ev ns az env b g≠.stuck):∃en,mU ns az env=some en:=by
 unfold nX at h
 cases hb:mU ns az env with
 | none=>rw [hb] at h;exact absurd rfl h
 | some en=>exact ⟨en,rfl⟩
theorem oE {ns:List Bs} {az:List Val} {b:Ex} {en:Env} (h:mU ns az env=some en):nX ev ns az env b g=ev g b en:=by unfold nX;rw [h]
theorem z8d {az:List Val} {en:Env}:mU [] az en=some en:=by cases az <;> rfl
end
theorem q5d {C:Ctx} {env:Env} {l:List Ex} {g r:Nat} {vs:List Val} (h:jZ (yM C) env l g=.ok vs r):r<=g:=gL (yF C) h
end Go.Sw

namespace Go.Sw
open Go.Proofs.Tryz
open Go.Proofs
theorem mixed:prog.follows .mixedOrders=true:=by kernel_rfl
theorem fo_27_0:zR prog 27 0 0:=zI runUnderlying27 rfl sizeOf22 (by decide) rfl
theorem fo_27_1:zR prog 27 1 1:=zI runUnderlying27 rfl sizeOf23 (by decide) rfl
theorem fo_27_2:zR prog 27 2 2:=zI runUnderlying27 rfl sizeOf24 (by decide) rfl
theorem fo_27_3:zR prog 27 3 3:=zI runUnderlying27 rfl sizeOf25 (by decide) rfl
theorem fo_30_0:zR prog 30 0 0:=zI runUnderlying30 rfl sizeOf28 (by decide) rfl
theorem fo_30_1:zR prog 30 1 1:=zI runUnderlying30 rfl sizeOf3 (by decide) rfl
theorem fo_42_0:zR prog 42 0 0:=zI runUnderlying42 rfl sizeOf9 (by decide) rfl
theorem fo_42_1:zR prog 42 1 1:=zI runUnderlying42 rfl sizeOf3 (by decide) rfl
theorem fo_42_2:zR prog 42 2 2:=zI runUnderlying42 rfl sizeOf38 (by decide) rfl
theorem fo_62_0:zR prog 62 0 0:=zI runUnderlying62 rfl sizeOf9 (by decide) rfl
theorem fo_62_1:zR prog 62 1 1:=zI runUnderlying62 rfl sizeOf42 (by decide) rfl
theorem fo_66_0:zR prog 66 0 0:=zI runUnderlying66 rfl sizeOf3 (by decide) rfl
theorem fo_66_1:zR prog 66 1 1:=zI runUnderlying66 rfl sizeOf3 (by decide) rfl
theorem fo_66_2:zR prog 66 2 2:=zI runUnderlying66 rfl sizeOf9 (by decide) rfl
theorem fo_66_3:zR prog 66 3 3:=zI runUnderlying66 rfl sizeOf63 (by decide) rfl
theorem fo_66_4:zR prog 66 4 4:=zI runUnderlying66 rfl sizeOf64 (by decide) rfl
theorem fo_68_0:zR prog 68 0 0:=zI runUnderlying68 rfl sizeOf9 (by decide) rfl
theorem fo_68_1:zR prog 68 1 1:=zI runUnderlying68 rfl sizeOf23 (by decide) rfl
theorem fo_68_2:zR prog 68 2 2:=zI runUnderlying68 rfl sizeOf9 (by decide) rfl
theorem fo_68_3:zR prog 68 3 3:=zI runUnderlying68 rfl sizeOf66 (by decide) rfl
theorem fo_72_0:zR prog 72 0 0:=zI runUnderlying72 rfl sizeOf9 (by decide) rfl
theorem fo_72_1:zR prog 72 1 1:=zI runUnderlying72 rfl sizeOf9 (by decide) rfl
theorem fo_99_0:zR prog 99 0 0:=zI runUnderlying99 rfl sizeOf89 (by decide) rfl
theorem fo_99_1:zR prog 99 1 1:=zI runUnderlying99 rfl sizeOf94 (by decide) rfl
theorem fo_99_2:zR prog 99 2 2:=zI runUnderlying99 rfl sizeOf96 (by decide) rfl
theorem fo_99_3:zR prog 99 3 3:=zI runUnderlying99 rfl sizeOf3 (by decide) rfl
theorem x5n:zR prog 106 0 0:=zI runUnderlying106 rfl sizeOf27 (by decide) rfl
theorem x5o:zR prog 106 1 4:=zI runUnderlying106 rfl sizeOf101 (by decide) rfl
theorem x5p:zR prog 106 2 5:=zI runUnderlying106 rfl sizeOf102 (by decide) rfl
theorem x5q:zR prog 106 3 6:=zI runUnderlying106 rfl sizeOf103 (by decide) rfl
theorem x5r:zR prog 106 4 7:=zI runUnderlying106 rfl sizeOf104 (by decide) rfl
theorem x5u:zR prog 130 0 0:=zI runUnderlying130 rfl sizeOf127 (by decide) rfl
theorem x5v:zR prog 130 1 1:=zI runUnderlying130 rfl sizeOf128 (by decide) rfl
theorem x5w:zR prog 133 0 0:=zI runUnderlying133 rfl sizeOf9 (by decide) rfl
theorem x5x:zR prog 133 1 1:=zI runUnderlying133 rfl sizeOf131 (by decide) rfl
theorem x5y:zR prog 135 0 0:=zI runUnderlying135 rfl sizeOf9 (by decide) rfl
theorem x5z:zR prog 135 1 1:=zI runUnderlying135 rfl sizeOf25 (by decide) rfl
theorem x6a:zR prog 181 0 0:=zI runUnderlying181 rfl sizeOf9 (by decide) rfl
theorem x6b:zR prog 181 1 1:=zI runUnderlying181 rfl sizeOf42 (by decide) rfl
theorem x6c:zR prog 181 2 4:=zI runUnderlying181 rfl sizeOf179 (by decide) rfl
theorem x6d:zR prog 190 0 0:=zI runUnderlying190 rfl sizeOf9 (by decide) rfl
theorem x6e:zR prog 190 1 1:=zI runUnderlying190 rfl sizeOf135 (by decide) rfl
theorem x6f:zR prog 195 0 0:=zI runUnderlying195 rfl sizeOf9 (by decide) rfl
theorem x6g:zR prog 195 1 1:=zI runUnderlying195 rfl sizeOf25 (by decide) rfl
theorem x6h:zR prog 195 2 2:=zI runUnderlying195 rfl sizeOf66 (by decide) rfl
theorem x6k:zR prog 270 1 1:=zI runUnderlying270 rfl sizeOf31 (by decide) rfl
theorem x6l:zR prog 274 0 0:=zI runUnderlying274 rfl sizeOf3 (by decide) rfl
theorem x6m:zR prog 274 2 2:=zI runUnderlying274 rfl sizeOf9 (by decide) rfl
theorem x6n:zR prog 297 0 0:=zI runUnderlying297 rfl sizeOf9 (by decide) rfl
theorem x6o:zR prog 297 1 1:=zI runUnderlying297 rfl sizeOf3 (by decide) rfl
theorem x6p:zR prog 301 0 0:=zI runUnderlying301 rfl sizeOf297 (by decide) rfl
theorem x6q:zR prog 301 1 2:=zI runUnderlying301 rfl sizeOf298 (by decide) rfl
theorem x6r:zR prog 301 2 3:=zI runUnderlying301 rfl sizeOf299 (by decide) rfl
set_option maxRecDepth 20000 in
theorem rt_22:RowT prog 22 133 2 40:=⟨underlying22,⟨_,_,Tryz.type133,rfl,rfl,rfl,rfl⟩,by decide,by decide⟩
set_option maxRecDepth 20000 in
theorem wT:RowT prog 25 9 1 16:=⟨underlying25,⟨_,_,Tryz.type9,rfl,rfl,rfl,rfl⟩,by decide,by decide⟩
set_option maxRecDepth 20000 in
theorem z2x:RowT prog 28 62 4 64:=⟨underlying28,⟨_,_,Tryz.type62,rfl,rfl,rfl,rfl⟩,by decide,by decide⟩
set_option maxRecDepth 20000 in
theorem pE:RowT prog 38 42 3 48:=⟨underlying38,⟨_,_,Tryz.type42,rfl,rfl,rfl,rfl⟩,by decide,by decide⟩
set_option maxRecDepth 20000 in
theorem mQ:RowT prog 93 3 1 8:=⟨underlying93,⟨_,_,Tryz.type3,rfl,rfl,rfl,rfl⟩,by decide,by decide⟩
set_option maxRecDepth 20000 in
theorem rt_128:RowT prog 128 5 1 1:=⟨underlying128,⟨_,_,Tryz.type5,rfl,rfl,rfl,rfl⟩,by decide,by decide⟩
set_option maxRecDepth 20000 in
theorem rt_299:RowT prog 299 314 2 16:=⟨underlying299,⟨_,_,Tryz.type314,rfl,rfl,rfl,rfl⟩,by decide,by decide⟩
end Go.Sw
