import Derived.Test.YtgkhcfjooiekkaaGreatDoorX01
set_option linter.unusedVariables false
set_option linter.unusedSimpArgs false
namespace Go.Sw
structure Sound (T:Table) (C:Ctx):Prop where
 funs:C.funs=T.funs
 fOk:∀n f,zL T.funs n=some f->pC T f=true/\f.result≠sNo
 dNo:zL T.datas sNo=none
 dInt:zL T.datas yB=none
 cD:∀con m,zL T.cons con=some m->con≠sNo/\m.con.name=con/\m.data≠yB/\∃d,zL T.datas m.data=some d/\m.con∈d.cons
 dC:∀t d x,zL T.datas t=some d->x∈d.cons->zL T.cons x.name=some ⟨t,x⟩
 cF:zL T.cons sB=some ⟨vV,⟨sB,[]⟩⟩
 cT:zL T.cons z1y=some ⟨vV,⟨z1y,[]⟩⟩
structure Closed (T:Table) (C:Ctx) (P:Ex->Prop):Prop where
 args:∀{e x},P e->x∈e.args->P x
 arms:∀{e a},P e->a∈e.arms->P a.body
 inp:∀{e t},P e->e.kind=3->zL T.inputs e.name=some t->∃v,zL C.inp e.name=some v/\pV T v t=true
 call:∀{e f},P e->e.kind=5->zL T.funs e.name=some f->P f.body
def EnvOk (T:Table) (s:Scope) (env:Env):Prop:=∀n t,zL s n=some t->∃v,zL env n=some v/\pV T v t=true
def Good (T:Table) (r:Ev Val) (t:Bs):Prop:=r≠.stuck/\∀v g,r=.ok v g->pV T v t=true
def sV (T:Table) (vs:List Val) (ts:List Bs):Prop:=All2 (fun v t=>pV T v t=true) vs ts
theorem EnvOk.put {T:Table} {s:Scope} {env:Env} {n t:Bs} {v:Val} (h:EnvOk T s env) (b:pV T v t=true):EnvOk T (wL s n t) ((n,v)::env):=fun m u N=>by
 rw [kC] at N
 simp only [zL]
 split at N
 ·simp only [Option.some.injEq] at N;subst N;rename_i a;rw [if_pos a];exact ⟨v,rfl,b⟩
 ·rename_i a;rw [if_neg a];exact h m u N
theorem y0x {T:Table}:∀{ns ts:List Bs} {vs:List Val} {s:Scope} {env:Env},ns.length=ts.length->sV T vs ts->EnvOk T s env->∃env',cA ns vs env=some env'/\EnvOk T (putAll s ns ts) env'
 | [],[],[],s,env,_,_,J=>⟨env,rfl,by rw [xD];exact J⟩
 | n::ns,t::ts,v::vs,s,env,hl,a,J=>by
  obtain ⟨env',h1,b⟩:=y0x (ns:=ns) (ts:=ts) (vs:=vs) (by simpa using hl) a.2 (J.put (n:=n) a.1)
  exact ⟨env',h1,b⟩
 | [],_::_,_,_,_,hl,_,_=>by simp at hl
 | _::_,[],_,_,_,hl,_,_=>by simp at hl
 | [],[],_::_,_,_,_,a,_=>a.elim
 | _::_,_::_,[],_,_,_,a,_=>a.elim
theorem y3d {T:Table}:∀{vs:List Val} {ts:List Bs},vs.length=ts.length->(hasL T vs ts=true↔sV T vs ts)
 | [],[],_=>by simp [hasL,sV,All2]
 | v::vs,t::ts,hl=>by
  simp only [hasL,sV,All2,List.headD_cons,List.tail_cons,baQ]
  rw [y3d (by simpa using hl)];rfl
 | [],_::_,hl=>by simp at hl
 | _::_,[],hl=>by simp at hl
theorem has_con {T:Table} {v:Val} {t:Bs} (h:pV T v t=true) (b:t≠yB):v.con≠sNo/\∃m,zL T.cons v.con=some m/\m.data=t/\sV T v.args m.con.fields:=by
 cases v with
 | mk con num args=>
  simp only [pV] at h
  split at h
  ·simp only [baQ,decide_eq_true_eq] at h;exact absurd h.1.2 b
  ·rename_i a
   refine ⟨fun e=>a (.inl e),?_⟩
   split at h
   ·cases h
   ·rename_i m N
    simp only [baQ,decide_eq_true_eq] at h
    exact ⟨m,N,h.1.1.1,(y3d h.1.2.symm).1 h.2⟩
theorem j0e {T:Table} {C:Ctx} (c:Sound T C) {con:Bs} {m:Maker} {vs:List Val} (N:zL T.cons con=some m) (a:sV T vs m.con.fields):pV T (.mk con 0 vs) m.data=true:=by
 obtain ⟨h1,d,b,_⟩:=c.cD con m N
 simp only [pV]
 rw [if_neg (fun e=>by rcases e with e | e;exact h1 e;exact b e)]
 simp only [N]
 have:=All2.length a
 simp only [baQ,decide_eq_true_eq]
 exact ⟨⟨⟨trivial,trivial⟩,this.symm⟩,(y3d this).2 a⟩
theorem z2x {T:Table} (n:Int):pV T (z4k n) yB=true:=by
 simp [z4k,pV]
theorem sInt_ne:yB≠sNo:=by decide
theorem q5q {T:Table} {C:Ctx} (a:Sound T C) (b:Bool):pV T (sR b) vV=true:=by
 cases b with
 | true=>exact j0e a (con:=z1y) a.cT (vs:=[]) trivial
 | false=>exact j0e a (con:=sB) a.cF (vs:=[]) trivial
theorem z2u {T:Table} {C:Ctx} {P:Ex->Prop} {g:Nat} {s:Scope} {env:Env}
  (i:∀g1,g1<=g->∀e t,P e->(zQ e).Nodup->Fresh s (zQ e)->Ty T e s t->Good T (qM C g1 e env) t) :
  ∀{xs:List Ex} {ts:List Bs} {g1:Nat},(∀x∈xs,P x)->g1<=g->(bindPs xs).Nodup->Fresh s (bindPs xs)->All2 (fun x t=>Ty T x s t) xs ts->xJ (qM C) env xs g1≠.stuck/\∀vs a,xJ (qM C) env xs g1=.ok vs a->sV T vs ts/\a<=g1
 | [],[],g1,_,_,_,_,_=>⟨fun h=>(by cases h),fun vs a h=>by simp only [xJ,Ev.ok.injEq] at h;obtain ⟨rfl,rfl⟩:=h;exact ⟨trivial,Nat.le_refl _⟩⟩
 | x::xs,t::ts,g1,f,j,m,d,b=>by
  have hn':=zU (show (zQ x++bindPs xs).Nodup from m)
  obtain ⟨p,q⟩:=i g1 j x t (f x msQ) hn'.1 (d.sub fun n h=>List.mem_append.2 (.inl h)) b.1
  simp only [xJ]
  cases hr:qM C g1 x env with
  | stuck=>exact absurd hr p
  | spent=>exact ⟨fun h=>(by cases h),fun vs a h=>by cases h⟩
  | ok v g3=>
   have k:=qV C _ _ _ _ _ hr
   obtain ⟨r,u⟩:=z2u i (xs:=xs) (ts:=ts) (g1:=g3) (fun y o=>f y (mcQ _ o)) (by omega) hn'.2.1 (d.sub fun n h=>List.mem_append.2 (.inr h)) b.2
   simp only [Ev.bind]
   cases c:xJ (qM C) env xs g3 with
   | stuck=>exact absurd c r
   | spent=>exact ⟨fun h=>(by cases h),fun vs a h=>by cases h⟩
   | ok l g4=>
    refine ⟨fun h=>(by cases h),fun vs a h=>?_⟩
    simp only [Ev.ok.injEq] at h
    obtain ⟨rfl,rfl⟩:=h
    have:=u _ _ c
    exact ⟨⟨q _ _ hr,this.1⟩,by omega⟩
 | [],_::_,_,_,_,_,_,b=>b.elim
 | _::_,[],_,_,_,_,_,b=>b.elim
theorem cY (ps:List Param):tA ps=putAll [] (ps.map Param.name) (ps.map Param.type):=by
 have:∀(ps:List Param) (s:Scope),ps.foldl (fun s p=>wL s p.name p.type) s=putAll s (ps.map Param.name) (ps.map Param.type):=by
  intro ps
  induction ps with
  | nil=>intro s;simp [xD]
  | cons p ps a=>intro s;simp only [List.foldl_cons,List.map_cons,nY,a]
 exact this ps []
theorem vD {nm:Bs->Bool}:∀{l ds:List Bs},pM nm ds l=true->l.Nodup/\(∀n∈l,n∉ds)/\∀n∈l,nm n=true
 | [],_,_=>by simp
 | s::l,ds,h=>by
  simp only [pM,baQ,Bool.not_eq_true'] at h
  obtain ⟨⟨h1,b⟩,d⟩:=h
  obtain ⟨e,c,f⟩:=vD d
  have O:s∉ds:=fun N=>by
   have:has ds s=true:=by simp only [has,List.any_eq_true,decide_eq_true_eq];exact ⟨s,N,rfl⟩
   rw [this] at b;cases b
  refine ⟨List.nodup_cons.2 ⟨fun N=>c s N (by simp),e⟩,fun n a=>?_,fun n a=>?_⟩
  ·rcases List.mem_cons.1 a with rfl | a
   ·exact O
   ·exact fun N=>c n a (List.mem_append.2 (.inl N))
  ·rcases List.mem_cons.1 a with rfl | a
   ·exact h1
   ·exact f n a
structure FunGood (T:Table) (f:Fun):Prop where
 nodup:(f.params.map Param.name++zQ f.body).Nodup
 ty:Ty T f.body (tA f.params) f.result
theorem q5n {T:Table} {C:Ctx} (b:Sound T C) {n:Bs} {f:Fun} (h:zL T.funs n=some f):FunGood T f:=by
 obtain ⟨h1,a⟩:=b.fOk n f h
 simp only [pC,baQ,decide_eq_true_eq] at h1
 exact ⟨(vD h1.1.2).1,h1.2,h1.2▸a⟩
theorem y8k {T:Table} {C:Ctx} {P:Ex->Prop} (d:Sound T C) {g:Nat} {n:Bs} {f:Fun} {vs:List Val} (h:zL T.funs n=some f) (hb:P f.body) (j:sV T vs (f.params.map Param.type))
  (k:∀e s env t,P e->(zQ e).Nodup->Fresh s (zQ e)->Ty T e s t->EnvOk T s env->Good T (qM C g e env) t):Good T (vC (qM C) f vs g) f.result:=by
 have b:=q5n d h
 have c:=zU b.nodup
 obtain ⟨env',h1,a⟩:=y0x (T:=T) (ns:=f.params.map Param.name) (ts:=f.params.map Param.type) (vs:=vs) (s:=[]) (env:=[]) (by simp) j (fun n t h=>by cases h)
 unfold vC nR
 rw [h1]
 rw [<- cY] at a
 refine k _ _ _ _ hb c.2.1 (fun m N=>?_) b.ty a
 rw [cY,xZ (fun i=>c.2.2 m i N)];rfl
theorem y2w {T:Table} {s:Scope} {t:Bs}:∀{az:List Arm} {cs:List Con} {c:Con},All2 (fun a c=>ArmOk T s t a c) az cs->c∈cs->(∀d∈cs,d.name=c.name->d=c)->∃a,kG az c.name=some a/\a∈az/\ArmOk T s t a c
 | [],[],_,_,h,_=>by cases h
 | a::az,d::cs,c,h,f,g=>by
  simp only [kG]
  by_cases J:a.con=c.name
  ·rw [if_pos J]
   have:d=c:=g d msQ (by rw [<- h.1.1];exact J)
   subst this
   exact ⟨a,rfl,msQ,h.1⟩
  ·rw [if_neg J]
   rcases List.mem_cons.1 f with rfl | f
   ·exact absurd h.1.1 J
   ·obtain ⟨b,i,j,k⟩:=y2w h.2 f (fun e J=>g e (mcQ _ J))
    exact ⟨b,i,mcQ _ j,k⟩
 | [],_::_,_,h,_,_=>h.elim
 | _::_,[],_,h,_,_=>h.elim
theorem z4e {az:List Arm} {a:Arm} (h:a∈az):∃l r,bindPa az=l++(a.vars++zQ a.body)++r:=by
 induction az with
 | nil=>cases h
 | cons b az c=>
  rw [qA]
  rcases List.mem_cons.1 h with rfl | h
  ·exact ⟨[],bindPa az,by simp⟩
  ·obtain ⟨l,r,e⟩:=c h
   exact ⟨b.vars++zQ b.body++l,r,by rw [e];simp⟩
theorem sound {T:Table} {C:Ctx} {P:Ex->Prop} (D:Sound T C) (G:Closed T C P):∀(g:Nat) (e:Ex) (s:Scope) (env:Env) (t:Bs),P e->(zQ e).Nodup->Fresh s (zQ e)->Ty T e s t->EnvOk T s env->Good T (qM C g e env) t:=by
 intro g
 induction g using Nat.strongRecOn with
 | _ g ih=>
 cases g with
 | zero=>exact fun e s env t _ _ _ _ _=>⟨fun h=>(by rw [oQ] at h;cases h),fun v g h=>by rw [oQ] at h;cases h⟩
 | succ g=>
 intro e s env t E hn S i J
 obtain ⟨i,j⟩:=i
 have w:∀x,mZ T x:=fun x=>aL T D.dNo _ x (Nat.lt_succ_self _)
 rw [wD] at hn S
 have Q:=zU hn
 have o:=zU Q.1
 have k:Fresh s (bindPs e.args):=S.sub fun m N=>List.mem_append.2 (.inl (List.mem_append.2 (.inr N)))
 have Y:Fresh s (bindPa e.arms):=S.sub fun m N=>List.mem_append.2 (.inr N)
 have ihg:∀g1,g1<=g->∀e t,P e->(zQ e).Nodup->Fresh s (zQ e)->Ty T e s t->Good T (qM C g1 e env) t:=fun g1 hg e t p a b c=>ih g1 (by omega) e s env t p a b c J
 rw [yH]
 have okG:∀(v:Val) (g1:Nat),pV T v t=true->Good T (.ok v g1) t:=fun v g1 h=>⟨fun h=>(by cases h),fun v' g' h'=>by simp only [Ev.ok.injEq] at h';rw [<- h'.1];exact h⟩
 have spG:Good T .spent t:=⟨fun h=>(by cases h),fun v' g' h'=>by cases h'⟩
 unfold xE
 by_cases h1:e.kind=1
 ·rw [if_pos h1]
  rw [nP T e s h1] at i
  simp only [gY] at i
  split at i
  ·subst i;exact okG _ _ (z2x _)
  ·exact absurd i.symm j
 rw [if_neg h1]
 by_cases h2:e.kind=2
 ·rw [if_pos h2]
  rw [mS T e s h2] at i
  simp only [wJ] at i
  split at i
  ·cases hl:zL s e.name with
   | none=>rw [hl] at i;exact absurd i.symm j
   | some u=>
    rw [hl] at i
    simp only [Option.getD_some] at i;subst i
    obtain ⟨v,z,A⟩:=J _ _ hl
    rw [z];exact okG _ _ A
  ·exact absurd i.symm j
 rw [if_neg h2]
 by_cases V:e.kind=3
 ·rw [if_pos V]
  rw [mP T e s V] at i
  simp only [oT] at i
  split at i
  ·cases hl:zL T.inputs e.name with
   | none=>rw [hl] at i;exact absurd i.symm j
   | some u=>
    rw [hl] at i
    simp only [Option.getD_some] at i;subst i
    obtain ⟨v,z,A⟩:=G.inp E V hl
    rw [z];exact okG _ _ A
  ·exact absurd i.symm j
 rw [if_neg V]
 by_cases h4:e.kind=4
 ·rw [if_pos h4]
  rw [mO T e s h4] at i
  unfold sY at i
  split at i
  ·exact absurd i.symm j
  ·rename_i m N
   split at i
   ·split at i
    ·rename_i B
     subst i
     obtain ⟨z,A⟩:=z2u (g:=g) ihg (fun x H=>G.args E H) (Nat.le_refl g) o.2.1 k (aF (fun x _=>w x) o.2.1 k B).2
     cases hr:xJ (qM C) env e.args g with
     | stuck=>exact absurd hr z
     | spent=>exact spG
     | ok vs I=>exact okG _ _ (j0e D N (A _ _ hr).1)
    ·exact absurd i.symm j
   ·exact absurd i.symm j
 rw [if_neg h4]
 by_cases W:e.kind=5
 ·rw [if_pos W]
  rw [wS T e s W] at i
  unfold nA at i
  split at i
  ·exact absurd i.symm j
  ·rename_i f N
   split at i
   ·split at i
    ·rename_i B
     subst i
     obtain ⟨z,A⟩:=z2u (g:=g) ihg (fun x H=>G.args E H) (Nat.le_refl g) o.2.1 k (aF (fun x _=>w x) o.2.1 k B).2
     rw [D.funs,N]
     simp only
     cases hr:xJ (qM C) env e.args g with
     | stuck=>exact absurd hr z
     | spent=>exact spG
     | ok vs I=>
      simp only [Ev.bind]
      obtain ⟨F,k4⟩:=A _ _ hr
      exact y8k D N (G.call E W N) F (fun e s env t=>ih I (by omega) e s env t)
    ·exact absurd i.symm j
   ·exact absurd i.symm j
 rw [if_neg W]
 by_cases X:e.kind=6
 ·rw [if_pos X]
  rw [mQ T e s X] at i
  unfold z0v at i
  split at i
  ·rename_i hb
   have hl:=xP (n:=2) hb
   obtain ⟨x,y,q⟩:∃x y,e.args=[x,y]:=by
    cases B:e.args with
    | nil=>rw [B] at hl;simp at hl
    | cons a l=>
     cases l with
     | nil=>rw [B] at hl;simp at hl
     | cons b l=>
      rw [B] at hl
      simp only [lcQ] at hl
      have:l=[]:=List.eq_nil_of_length_eq_zero (by omega)
      subst this;exact ⟨a,b,rfl⟩
   rw [q] at i ⊢
   simp only
   have H:[x,y][0]? = some x:=rfl
   have hy:[x,y][1]? = some y:=rfl
   by_cases K:(zG T x s).1=sNo
   ·rw [z2z H K] at i;exact absurd i.symm j
   ·rw [oX H hy K] at i
    simp only at i
    simp only [if_pos X,q,bindPs,List.append_nil] at hn S
    have r0:=zU hn
    have c0:=zU r0.1
    have M:=zU c0.2.1
    have Z:Fresh s (zQ x):=S.sub fun m N=>by simp [N]
    have e1:=w x s M.1 Z K
    obtain ⟨z,A⟩:=ihg g (Nat.le_refl g) x _ (G.args E (by rw [q];simp)) M.1 Z ⟨rfl,K⟩
    cases hr:qM C g x env with
    | stuck=>exact absurd hr z
    | spent=>exact spG
    | ok v I=>
     have:=qV C _ _ _ _ _ hr
     simp only [Ev.bind]
     have a0:Fresh (wL s e.name (zG T x s).1) (zQ y):=fun m N=>by
      rw [kC,if_neg]
      ·exact S m (by simp [N])
      ·rintro rfl
       exact c0.2.2 e.name (by simp) (by simp [N])
     rw [e1] at i
     exact ih I (by omega) y (wL s e.name (zG T x s).1) _ t (G.args E (by rw [q];simp)) M.2.1 a0 ⟨i,j⟩ (J.put (A _ _ hr))
  ·exact absurd i.symm j
 rw [if_neg X]
 by_cases h7:e.kind=7
 ·rw [if_pos h7]
  rw [mN T e s h7] at i
  unfold jT at i
  split at i
  ·rename_i hb
   have hl:=xP (n:=1) hb
   obtain ⟨x,q⟩:∃x,e.args=[x]:=by
    cases B:e.args with
    | nil=>rw [B] at hl;simp at hl
    | cons a l=>
     rw [B] at hl
     simp only [lcQ] at hl
     have:l=[]:=List.eq_nil_of_length_eq_zero (by omega)
     subst this;exact ⟨a,rfl⟩
   rw [q] at i ⊢
   simp only [firstP] at i ⊢
   split at i
   ·exact absurd i.symm j
   ·rename_i d L
    split at i
    ·rename_i q0
     have K:(zG T x s).1≠sNo:=fun e0=>by rw [e0,D.dNo] at L;cases L
     have p0:(zG T x s).1≠yB:=fun e0=>by rw [e0,D.dInt] at L;cases L
     rw [q] at o k
     simp only [bindPs,List.append_nil] at o k
     have e1:=w x s o.2.1 k K
     rw [e1] at i
     obtain ⟨z,A⟩:=ihg g (Nat.le_refl g) x _ (G.args E (by rw [q];simp)) o.2.1 k ⟨rfl,K⟩
     cases hr:qM C g x env with
     | stuck=>exact absurd hr z
     | spent=>exact spG
     | ok v I=>
      have:=qV C _ _ _ _ _ hr
      simp only [Ev.bind]
      obtain ⟨j1,m,j2,j3,j4⟩:=has_con (A _ _ hr) p0
      obtain ⟨_,j5,_,d',j6,j7⟩:=D.cD _ _ j2
      rw [j3,L] at j6
      simp only [Option.some.injEq] at j6;subst j6
      have u0:=z0f j (fun a _=>w a.body) q0 Q.2.1 Y i
      obtain ⟨a,q1,q2,q3,q4,q5⟩:=y2w (c:=m.con) u0.2.1 j7 (fun d2 n0 s0=>by
       have r1:=D.dC _ _ _ L n0
       have r2:=D.dC _ _ _ L j7
       rw [s0,r2] at r1
       simp only [Option.some.injEq,Maker.mk.injEq,true_and] at r1
       exact r1.symm)
      rw [j5] at q1
      rw [q1]
      simp only
      obtain ⟨l,r,b0⟩:=z4e q2
      have t0:(a.vars++zQ a.body).Nodup:=by
       have:=Q.2.1
       rw [b0] at this
       exact (zU (zU this).1).2.1
      have o0:Fresh s (a.vars++zQ a.body):=Y.sub fun m N=>by rw [b0];simp at N ⊢;rcases N with N | N <;> simp [N]
      have hnn':=zU t0
      obtain ⟨env',w1,w2⟩:=y0x (ns:=a.vars) q4 j4 J
      unfold nR
      rw [w1]
      exact ih I (by omega) a.body _ env' t (G.arms E q2) hnn'.2.1 (fun m N=>by
       rw [xZ (fun E=>hnn'.2.2 m E N)];exact o0 m (List.mem_append.2 (.inr N))) q5 w2
    ·exact absurd i.symm j
  ·exact absurd i.symm j
 rw [if_neg h7]
 by_cases h8:e.kind=8
 ·rw [if_pos h8]
  rw [aC T e s h8] at i
  unfold mY at i
  split at i
  ·split at i
   ·rename_i B
    obtain ⟨z,A⟩:=z2u (g:=g) ihg (fun x H=>G.args E H) (Nat.le_refl g) o.2.1 k (aF (fun x _=>w x) o.2.1 k B).2
    cases hr:xJ (qM C) env e.args g with
    | stuck=>exact absurd hr z
    | spent=>exact spG
    | ok vs I=>
     simp only [Ev.bind]
     obtain ⟨F,k4⟩:=A _ _ hr
     match vs,F with
     | [a,b],F=>
      simp only
      apply okG
      simp only at i
      unfold opT at i
      unfold jO
      split at i
      ·rename_i U
       subst i
       split
       ·exact z2x _
       split
       ·exact z2x _
       split
       ·exact z2x _
       split
       ·rename_i h;rw [h] at U;simp at U
       split
       ·rename_i h;rw [h] at U;simp at U
       split
       ·exact z2x 0
       split <;> exact z2x _
      ·split at i
       ·rename_i R U
        subst i
        split
        ·rename_i h;exact absurd (.inl h) R
        split
        ·rename_i h;exact absurd (.inr (.inl h)) R
        split
        ·rename_i h;exact absurd (.inr (.inr (.inl h))) R
        split
        ·exact q5q D _
        split
        ·exact q5q D _
        ·rename_i u1 u2;rcases U with h | h
         ·exact absurd h u1
         ·exact absurd h u2
       ·exact absurd i.symm j
     | [],F=>exact F.elim
     | [a],F=>exact F.2.elim
     | a::b::c::l,F=>exact F.2.2.elim
   ·exact absurd i.symm j
  ·exact absurd i.symm j
 rw [if_neg h8]
 rw [mR T e s h1 h2 V h4 W X h7 h8] at i
 exact absurd i.symm j
section
variable {α:Type}
def vG {β:Type} (key:β->Bs) (val:β->α) (l:List β):List (Bs×α):=l.map fun x=>(key x,val x)
theorem z5d {β:Type} {key:β->Bs} {val:β->α}:∀{l:List β} {x:β},(l.map key).Nodup->x∈l->zL (vG key val l) (key x)=some (val x)
 | y::l,x,a,h=>by
  simp only [List.map_cons,List.nodup_cons] at a
  simp only [vG,List.map_cons,zL]
  rcases List.mem_cons.1 h with rfl | h
  ·rw [if_pos rfl]
  ·rw [if_neg (fun e=>a.1 (by rw [<- e];exact List.mem_map_of_mem h))]
   exact z5d a.2 h
theorem xM {β:Type} {key:β->Bs} {val:β->α}:∀{l:List β} {n:Bs} {v:α},zL (vG key val l) n=some v->∃x∈l,key x=n/\val x=v
 | [],_,_,h=>by simp [vG,zL] at h
 | y::l,n,v,h=>by
  simp only [vG,List.map_cons,zL] at h
  split at h
  ·simp only [Option.some.injEq] at h;rename_i e;exact ⟨y,msQ,e.symm,h⟩
  ·obtain ⟨x,h1,a⟩:=xM h;exact ⟨x,mcQ _ h1,a⟩
theorem xA {s r:List (Bs×α)} {n:Bs} (h:zL (s++r) n=none):zL s n=none/\zL r n=none:=by
 induction s with
 | nil=>exact ⟨rfl,h⟩
 | cons p s b=>
  obtain ⟨k,x⟩:=p
  simp only [List.cons_append,zL] at h ⊢
  split at h
  ·cases h
  ·rename_i a;rw [if_neg a];exact b h
theorem lget_single {k n:Bs} {x:α}:zL [(k,x)] n=none↔n≠k:=by
 simp [zL]
end
theorem nX {α:Type} {m:List (Bs×α)} {s:Bs} {x:α} (h:zL m s=none):jD m s x=m++[(s,x)]:=by
 unfold jD;rw [h];exact uS h
theorem z2e (dn:Bs):∀{l:List Con} {ok:Bool} {m:List (Bs×Maker)},(xR dn ok m l).1=true ->
  ok=true/\(xR dn ok m l).2=m++vG Con.name (fun x=>⟨dn,x⟩) l/\(∀x∈l,qC x.name=true/\zL m x.name=none)/\(l.map Con.name).Nodup
 | [],ok,m,h=>⟨h,by simp [xR,vG],by simp,by simp⟩
 | x::l,ok,m,h=>by
  simp only [xR] at h ⊢
  split at h
  ·rename_i c
   rw [if_pos c]
   simp only [baQ] at c
   obtain ⟨h1,d,b,g⟩:=z2e dn h
   have f:zL m x.name=none:=by simpa using h1
   rw [nX f] at d b ⊢
   refine ⟨c.1,by rw [d];simp [vG],fun y a=>?_,?_⟩
   ·rcases List.mem_cons.1 a with rfl | a
    ·exact ⟨c.2,f⟩
    ·exact ⟨(b y a).1,(xA (b y a).2).1⟩
   ·simp only [List.map_cons,List.nodup_cons]
    refine ⟨fun N=>?_,g⟩
    obtain ⟨y,a,e⟩:=List.mem_map.1 N
    have:=(xA (b y a).2).2
    rw [lget_single] at this
    exact this e
  ·have:=(z2e dn h).1;cases this
def z0n (l:List Data):List (Bs×Maker):=(l.map fun d=>vG Con.name (fun x=>(⟨d.name,x⟩:Maker)) d.cons).flatten
theorem z2f:∀{l:List Data} {ok:Bool} {ds:List (Bs×Data)} {m:List (Bs×Maker)},(tC ok ds m l).1=true ->
  ok=true/\(tC ok ds m l).2.1=ds++vG Data.name id l/\(tC ok ds m l).2.2=m++z0n l /\
  (∀d∈l,qC d.name=true/\d.name≠yB/\zL ds d.name=none/\(d.cons.map Con.name).Nodup/\∀x∈d.cons,qC x.name=true/\zL m x.name=none)/\(l.map Data.name).Nodup /\
  ((l.map fun d=>d.cons.map Con.name).flatten).Nodup
 | [],ok,ds,m,h=>⟨h,by simp [tC,vG],by simp [tC,z0n],by simp,by simp,by simp⟩
 | d::l,ok,ds,m,h=>by
  simp only [tC] at h ⊢
  obtain ⟨h1,i,j,b,u,v⟩:=z2f h
  obtain ⟨g1,t,g3,g4⟩:=z2e d.name h1
  simp only [aA,baQ,decide_eq_true_eq,Bool.not_eq_true',decide_eq_false_iff_not,Option.isNone_iff_eq_none] at g1
  obtain ⟨⟨⟨⟨o,p⟩,q⟩,r⟩,G⟩:=g1
  have A:pO ok ds d=ds++[(d.name,d)]:=by
   unfold pO
   rw [if_pos (by simp [o,p,q])]
   exact nX r
  rw [A,t] at i j b ⊢
  refine ⟨o,by rw [i];simp [vG],by rw [j];simp [z0n],fun e J=>?_,?_,?_⟩
  ·rcases List.mem_cons.1 J with rfl | J
   ·exact ⟨p,q,r,g4,fun x a=>g3 x a⟩
   ·obtain ⟨C,D,E,F,k⟩:=b e J
    exact ⟨C,D,(xA E).1,F,fun x a=>⟨(k x a).1,(xA (k x a).2).1⟩⟩
  ·simp only [List.map_cons,List.nodup_cons]
   refine ⟨fun N=>?_,u⟩
   obtain ⟨e,J,s⟩:=List.mem_map.1 N
   have:=(xA (b e J).2.2.1).2
   rw [lget_single] at this
   exact this s
  ·simp only [List.map_cons,List.flatten_cons]
   rw [List.nodup_append]
   refine ⟨g4,v,fun n z m' hm' e=>?_⟩
   subst e
   obtain ⟨x,a,rfl⟩:=List.mem_map.1 z
   obtain ⟨ns,c,f⟩:=List.mem_flatten.1 hm'
   obtain ⟨e,J,rfl⟩:=List.mem_map.1 c
   obtain ⟨y,B,g⟩:=List.mem_map.1 f
   have:=(xA ((b e J).2.2.2.2 y B).2).2
   rw [g] at this
   have w:zL (vG Con.name (fun x=>(⟨d.name,x⟩:Maker)) d.cons) x.name=some ⟨d.name,x⟩:=z5d (val:=fun x=>(⟨d.name,x⟩:Maker)) g4 a
   rw [w] at this;cases this
theorem uC:∀{l:List Fun} {ok:Bool} {m:List (Bs×Fun)},(tD ok m l).1=true ->
  ok=true/\(tD ok m l).2=m++vG Fun.name id l/\(∀f∈l,qF f.name=true/\zL m f.name=none)/\(l.map Fun.name).Nodup
 | [],ok,m,h=>⟨h,by simp [tD,vG],by simp,by simp⟩
 | x::l,ok,m,h=>by
  simp only [tD] at h ⊢
  split at h
  ·rename_i c
   rw [if_pos c]
   simp only [baQ] at c
   obtain ⟨h1,d,b,i⟩:=uC h
   have g:zL m x.name=none:=by simpa using h1
   rw [nX g] at d b ⊢
   refine ⟨c.1,by rw [d];simp [vG],fun y a=>?_,?_⟩
   ·rcases List.mem_cons.1 a with rfl | a
    ·exact ⟨c.2,g⟩
    ·exact ⟨(b y a).1,(xA (b y a).2).1⟩
   ·simp only [List.map_cons,List.nodup_cons]
    refine ⟨fun N=>?_,i⟩
    obtain ⟨y,a,e⟩:=List.mem_map.1 N
    have:=(xA (b y a).2).2
    rw [lget_single] at this
    exact this e
  ·have:=(uC h).1;cases this
theorem uD:∀{l:List Param} {ok:Bool} {m:List (Bs×Bs)},(tE ok m l).1=true ->
  ok=true/\(tE ok m l).2=m++vG Param.name Param.type l/\(∀p∈l,qF p.name=true/\zL m p.name=none)/\(l.map Param.name).Nodup
 | [],ok,m,h=>⟨h,by simp [tE,vG],by simp,by simp⟩
 | x::l,ok,m,h=>by
  simp only [tE] at h ⊢
  split at h
  ·rename_i c
   rw [if_pos c]
   simp only [baQ] at c
   obtain ⟨h1,d,b,g⟩:=uD h
   have f:zL m x.name=none:=by simpa using h1
   rw [nX f] at d b ⊢
   refine ⟨c.1,by rw [d];simp [vG],fun y a=>?_,?_⟩
   ·rcases List.mem_cons.1 a with rfl | a
    ·exact ⟨c.2,f⟩
    ·exact ⟨(b y a).1,(xA (b y a).2).1⟩
   ·simp only [List.map_cons,List.nodup_cons]
    refine ⟨fun N=>?_,g⟩
    obtain ⟨y,a,e⟩:=List.mem_map.1 N
    have:=(xA (b y a).2).2
    rw [lget_single] at this
    exact this e
  ·have:=(uD h).1;cases this
structure Right (c:Core):Prop where
 datas:(zI c).datas=vG Data.name id (truthsD::c.datas)
 cons:(zI c).cons=z0n (truthsD::c.datas)
 funs:(zI c).funs=vG Fun.name id c.funs
 inputs:(zI c).inputs=vG Param.name Param.type c.inputs
 dN:∀d∈truthsD::c.datas,qC d.name=true/\d.name≠yB/\(d.cons.map Con.name).Nodup/\∀x∈d.cons,qC x.name=true
 dU:((truthsD::c.datas).map Data.name).Nodup
 cU:(((truthsD::c.datas).map fun d=>d.cons.map Con.name).flatten).Nodup
 fN:∀f∈c.funs,qF f.name=true
 fU:(c.funs.map Fun.name).Nodup
 iN:∀p∈c.inputs,qF p.name=true
 iU:(c.inputs.map Param.name).Nodup
 outs:c.outputs≠[]
 fields:∀d∈c.datas,nC (zI c) d=true
 inT:∀p∈c.inputs,jG c.datas p.type=true
 fOk:∀f∈c.funs,pC (zI c) f=true
 oOk:kS (zI c) [] c.outputs=true
theorem x4q {c:Core} (h:qT c=true):Right c:=by
 simp only [qT,baQ,decide_eq_true_eq,List.all_eq_true] at h
 obtain ⟨⟨⟨⟨⟨h1,l⟩,m⟩,n⟩,o⟩,q⟩:=h
 obtain ⟨u,i2,i3,i4⟩:=uD (show (tE (fsP c).1 [] c.inputs).1=true from h1)
 obtain ⟨g,i,j,k⟩:=uC (show (tD (dsP c).1 [] c.funs).1=true from u)
 obtain ⟨_,d2,d3,d4,b,e⟩:=z2f (show (tC true [] [] (truthsD::c.datas)).1=true from g)
 exact { datas:=d2,cons:=d3,funs:=i,inputs:=i2,dN:=fun d a=>⟨(d4 d a).1,(d4 d a).2.1,(d4 d a).2.2.2.1,fun x t=>((d4 d a).2.2.2.2 x t).1⟩,dU:=b,cU:=e,fN:=fun f r=>(j f r).1,fU:=k,iN:=fun p s=>(i3 p s).1,iU:=i4,outs:=l,fields:=m,inT:=n,fOk:=o,oOk:=q }
theorem tT:qC sNo=false:=by decide
theorem z6x {l:List Data}:(((l.map fun d=>d.cons.map Con.name).flatten).Nodup)->∀{d x},d∈l->x∈d.cons->zL (z0n l) x.name=some ⟨d.name,x⟩:=by
 induction l with
 | nil=>intro _ d x h;cases h
 | cons e l i=>
  intro b d x a c
  simp only [List.map_cons,List.flatten_cons] at b
  have hn':=zU b
  simp only [z0n,List.map_cons,List.flatten_cons]
  rcases List.mem_cons.1 a with rfl | a
  ·have:=z5d (val:=fun x=>(⟨d.name,x⟩:Maker)) hn'.1 c
   generalize vG Con.name (fun x=>(⟨d.name,x⟩:Maker)) d.cons=s at this ⊢
   clear b hn' i
   induction s with
   | nil=>cases this
   | cons p s g=>
    obtain ⟨k,y⟩:=p
    simp only [List.cons_append,zL] at this ⊢
    split at this
    ·rename_i h;rw [if_pos h];exact this
    ·rename_i h;rw [if_neg h];exact g this
  ·rw [aM]
   ·exact i hn'.2.1 a c
   ·cases j:zL (vG Con.name (fun x=>(⟨e.name,x⟩:Maker)) e.cons) x.name with
    | none=>rfl
    | some v=>
     obtain ⟨y,m,h1,_⟩:=xM j
     exact absurd (List.mem_flatten.2 ⟨_,List.mem_map_of_mem (f:=fun d:Data=>d.cons.map Con.name) a,List.mem_map_of_mem (f:=Con.name) c⟩) (hn'.2.2 x.name (h1▸List.mem_map_of_mem (f:=Con.name) m))
theorem y8n {l:List Data} {n:Bs} {m:Maker} (h:zL (z0n l) n=some m):∃d∈l,m.data=d.name/\m.con∈d.cons/\m.con.name=n:=by
 induction l with
 | nil=>simp [z0n,zL] at h
 | cons e l c=>
  simp only [z0n,List.map_cons,List.flatten_cons] at h
  cases a:zL (vG Con.name (fun x=>(⟨e.name,x⟩:Maker)) e.cons) n with
  | none=>
   rw [aM a] at h
   obtain ⟨d,g,r⟩:=c h
   exact ⟨d,mcQ _ g,r⟩
  | some v=>
   have i:zL (vG Con.name (fun x=>(⟨e.name,x⟩:Maker)) e.cons++(l.map fun d=>vG Con.name (fun x=>(⟨d.name,x⟩:Maker)) d.cons).flatten) n=some v:=by
    clear h c
    generalize vG Con.name (fun x=>(⟨e.name,x⟩:Maker)) e.cons=s at a ⊢
    induction s with
    | nil=>cases a
    | cons p s b=>
     obtain ⟨k,y⟩:=p
     simp only [List.cons_append,zL] at a ⊢
     split at a
     ·rename_i h;rw [if_pos h];exact a
     ·rename_i h;rw [if_neg h];exact b a
   rw [i] at h
   simp only [Option.some.injEq] at h;subst h
   obtain ⟨y,j,h1,f⟩:=xM a
   subst f
   exact ⟨e,msQ,rfl,j,h1⟩
def inpP (l:List Named):List (Bs×Val):=l.foldl (fun m x=>wL m x.name x.value) []
theorem y9m {T:Table}:∀{l:List Named} {ps:List Param},pN T l ps=true->l.map Named.name=ps.map Param.name/\∀p∈ps,∃x∈l,x.name=p.name/\pV T x.value p.type=true
 | [],[],_=>⟨rfl,fun p h=>by cases h⟩
 | v::vs,p::ps,h=>by
  simp only [pN,baQ,decide_eq_true_eq] at h
  obtain ⟨h1,a⟩:=y9m h.2
  refine ⟨by simp [h1,h.1.1.1],fun q hq=>?_⟩
  rcases List.mem_cons.1 hq with rfl | hq
  ·exact ⟨v,msQ,h.1.1.1,h.1.2⟩
  ·obtain ⟨x,b,r⟩:=a q hq;exact ⟨x,mcQ _ b,r⟩
 | [],_::_,h=>by cases h
 | _::_,[],h=>by cases h
theorem x3e {l:List Named} (b:(l.map Named.name).Nodup) {x:Named} (c:x∈l):zL (inpP l) x.name=some x.value:=by
 have:∀(l:List Named) (m:List (Bs×Val)),(l.map Named.name).Nodup->∀x,(x∈l->zL (l.foldl (fun m x=>wL m x.name x.value) m) x.name=some x.value)/\∀n,n∉l.map Named.name->zL (l.foldl (fun m x=>wL m x.name x.value) m) n=zL m n:=by
  intro l
  induction l with
  | nil=>intro m _ x;exact ⟨fun h=>(by cases h),fun n _=>rfl⟩
  | cons y l e=>
   intro m b x
   simp only [List.map_cons,List.nodup_cons] at b
   obtain ⟨f,d⟩:=e (wL m y.name y.value) b.2 x
   simp only [List.foldl_cons]
   refine ⟨fun c=>?_,fun n a=>?_⟩
   ·rcases List.mem_cons.1 c with rfl | c
    ·rw [d _ b.1,kC,if_pos rfl]
    ·exact f c
   ·simp only [List.map_cons,List.mem_cons,not_or] at a
    rw [d n a.2,kC,if_neg a.1]
 exact (this l [] b x).1 c
theorem j5l {c:Core} (a:Right c) {t:Bs} (h:vW (zI c) t=true):t≠sNo:=by
 rintro rfl
 simp only [vW,Bool.or_eq_true,decide_eq_true_eq] at h
 rcases h with h | h
 ·rw [a.datas] at h
  cases b:zL (vG Data.name id (truthsD::c.datas)) sNo with
  | none=>rw [b] at h;cases h
  | some d=>
   obtain ⟨x,e,h1,_⟩:=xM b
   have:=(a.dN x e).1
   rw [h1,tT] at this;cases this
 ·exact sInt_ne h.symm
theorem z2c {c:Core} (a:Right c) {inp:List (Bs×Val)}:Sound (zI c) ⟨(zI c).funs,inp⟩ where
 funs:=rfl
 fOk n f h:=by
  rw [a.funs] at h
  obtain ⟨x,b,_,rfl⟩:=xM h
  have:=a.fOk x b
  refine ⟨this,?_⟩
  simp only [pC,baQ] at this
  exact j5l a this.1.1.2
 dNo:=by
  rw [a.datas]
  cases i:zL (vG Data.name id (truthsD::c.datas)) sNo with
  | none=>rfl
  | some d=>
   obtain ⟨x,b,h1,_⟩:=xM i
   have:=(a.dN x b).1
   rw [h1,tT] at this;cases this
 dInt:=by
  rw [a.datas]
  cases i:zL (vG Data.name id (truthsD::c.datas)) yB with
  | none=>rfl
  | some d=>
   obtain ⟨x,b,h1,_⟩:=xM i
   exact absurd h1 (a.dN x b).2.1
 cD con m h:=by
  rw [a.cons] at h
  obtain ⟨d,g,h1,j,k⟩:=y8n h
  refine ⟨fun e=>?_,k,h1▸(a.dN d g).2.1,d,?_,j⟩
  ·have:=(a.dN d g).2.2.2 _ j
   rw [k,e,tT] at this;cases this
  ·rw [a.datas,h1];exact z5d (val:=id) a.dU g
 dC t d x h b:=by
  rw [a.datas] at h
  obtain ⟨d',g,rfl,rfl⟩:=xM h
  rw [a.cons]
  exact z6x a.cU g b
 cF:=by
  rw [a.cons]
  exact z6x a.cU (d:=truthsD) (x:=⟨sB,[]⟩) msQ (by simp [truthsD,sB])
 cT:=by
  rw [a.cons]
  exact z6x a.cU (d:=truthsD) (x:=⟨z1y,[]⟩) msQ (by simp [truthsD,z1y])
theorem nM {c:Core} (h:yT c=0):Right c:=by
 unfold yT at h
 split at h
 ·cases h
 split at h
 ·cases h
 split at h
 ·rename_i hr;exact x4q hr
 ·cases h
theorem q2k {c:Core} (a:Right c) {l:List Named} (i:pN (zI c) l c.inputs=true):Closed (zI c) ⟨(zI c).funs,inpP l⟩ (fun _=>True):=by
 obtain ⟨h1,b⟩:=y9m i
 refine ⟨fun _ _=>trivial,fun _ _=>trivial,fun {e t} _ _ h=>?_,fun _ _ _=>trivial⟩
 rw [a.inputs] at h
 obtain ⟨p,j,g,rfl⟩:=xM h
 obtain ⟨x,k,d,f⟩:=b p j
 exact ⟨x.value,by rw [<- g,<- d];exact x3e (by rw [h1];exact a.iU) k,f⟩
end Go.Sw

namespace Go.Sw
def j3f (a:Nat) (ev:Nat->Ex->Env->Ev Val):Prop:=∀g,g<=a->∀e env v r,ev g e env=.ok v r->∀r',ev (g - r+r') e env=.ok v r'
theorem z2t {c:Nat} {ev:Nat->Ex->Env->Ev Val} (i:j3f c ev) (b:z4q ev) {env:Env}:∀{l:List Ex} {g r:Nat} {vs:List Val},g<=c->xJ ev env l g=.ok vs r->∀r',xJ ev env l (g - r+r')=.ok vs r'
 | [],g,r,vs,_,h,r'=>by
  simp only [xJ,Ev.ok.injEq] at h ⊢
  exact ⟨h.1,by omega⟩
 | e::es,g,r,vs,m,h,r'=>by
  obtain ⟨v,g1,h1,k⟩:=Ev.bind_ok h
  obtain ⟨l,a,d,f⟩:=Ev.bind_ok k
  simp only [Ev.ok.injEq] at f
  obtain ⟨rfl,rfl⟩:=f
  have n:=b _ _ _ _ _ h1
  have o:=dP b d
  have j:g - a+r'=g - g1+(g1 - a+r'):=by omega
  simp only [xJ]
  rw [j,i g m _ _ _ _ h1 (g1 - a+r')]
  simp only [Ev.bind]
  rw [z2t i b (by omega) d r']
theorem z6u {a:Nat} {ev:Nat->Ex->Env->Ev Val} (c:j3f a ev) {ns:List Bs} {az:List Val} {env:Env} {b:Ex} {g r:Nat} {v:Val} (d:g<=a) (h:nR ev ns az env b g=.ok v r) (r':Nat) :
  nR ev ns az env b (g - r+r')=.ok v r':=by
 unfold nR at h ⊢
 split at h
 ·cases h
 ·exact c g d _ _ _ _ h r'
theorem j9d {q:Nat} {ev:Nat->Ex->Env->Ev Val} (j:j3f q ev) (i:z4q ev) {C:Ctx} {g r:Nat} {e:Ex} {env:Env} {v:Val} (n:g<=q) (h:xE ev C g e env=.ok v r) (r':Nat) :
  xE ev C (g - r+r') e env=.ok v r':=by
 have u:=y5m i h
 unfold xE at h ⊢
 have triv:∀{x:Val},Ev.ok x g=.ok v r->Ev.ok x (g - r+r')=.ok v r':=fun h=>by
  simp only [Ev.ok.injEq] at h ⊢;exact ⟨h.1,by omega⟩
 split at h
 ·rw [if_pos (by assumption)];exact triv h
 rw [if_neg (by assumption)]
 split at h
 ·rw [if_pos (by assumption)];exact triv h
 rw [if_neg (by assumption)]
 split at h
 ·rw [if_pos (by assumption)];exact triv h
 rw [if_neg (by assumption)]
 split at h
 ·rw [if_pos (by assumption)]
  obtain ⟨l,g1,h1,c⟩:=Ev.bind_ok h
  simp only [Ev.ok.injEq] at c
  obtain ⟨rfl,rfl⟩:=c
  rw [z2t j i n h1 r'];rfl
 rw [if_neg (by assumption)]
 split at h
 ·rw [if_pos (by assumption)]
  split at h
  ·cases h
  ·rename_i f p
   obtain ⟨l,g1,h1,c⟩:=Ev.bind_ok h
   have s:=dP i h1
   have t:=z0z i c
   have o:g - r+r'=g - g1+(g1 - r+r'):=by omega
   try simp only [p]
   rw [o,z2t j i n h1]
   simp only [Ev.bind]
   exact z6u j (by omega) c r'
 rw [if_neg (by assumption)]
 split at h
 ·rw [if_pos (by assumption)]
  split at h
  ·rename_i a b l d
   obtain ⟨x,g1,h1,c⟩:=Ev.bind_ok h
   have s:=i _ _ _ _ _ h1
   have t:=i _ _ _ _ _ c
   have o:g - r+r'=g - g1+(g1 - r+r'):=by omega
   try simp only [d]
   rw [o,j g n _ _ _ _ h1]
   exact j g1 (by omega) _ _ _ _ c r'
  ·cases h
 rw [if_neg (by assumption)]
 split at h
 ·rw [if_pos (by assumption)]
  split at h
  ·rename_i a l d
   obtain ⟨x,g1,h1,c⟩:=Ev.bind_ok h
   have s:=i _ _ _ _ _ h1
   try simp only [d]
   split at c
   ·rename_i k
    simp only [Ev.ok.injEq] at c
    obtain ⟨rfl,rfl⟩:=c
    rw [j g n _ _ _ _ h1]
    simp only [Ev.bind,k]
   ·rename_i m k
    have t:=z0z i c
    have o:g - r+r'=g - g1+(g1 - r+r'):=by omega
    rw [o,j g n _ _ _ _ h1]
    simp only [Ev.bind,k]
    exact z6u j (by omega) c r'
  ·cases h
 rw [if_neg (by assumption)]
 split at h
 ·rw [if_pos (by assumption)]
  obtain ⟨l,g1,h1,c⟩:=Ev.bind_ok h
  split at c
  ·simp only [Ev.ok.injEq] at c
   obtain ⟨rfl,rfl⟩:=c
   rw [z2t j i n h1 r'];rfl
  ·cases c
 rw [if_neg (by assumption)]
 exact triv h
theorem y9c (C:Ctx):∀a,j3f a (qM C)
 | 0=>fun g c e env v r h=>by
  have:g=0:=by omega
  subst this;rw [oQ] at h;cases h
 | a+1=>fun g c e env v r h r'=>by
  cases g with
  | zero=>rw [oQ] at h;cases h
  | succ g=>
   rw [yH] at h
   have d:=y5m (qV C) h
   have b:g+1 - r+r'=(g - r+r')+1:=by omega
   rw [b,yH]
   exact j9d (y9c C a) (qV C) (by omega) h r'
theorem y8j {C:Ctx} {f:Fun} {az:List Val} {g r:Nat} {v:Val} (h:vC (qM C) f az g=.ok v r) (r':Nat):vC (qM C) f az (g - r+r')=.ok v r' :=
 z6u (y9c C g) (Nat.le_refl g) h r'
theorem dI {C:Ctx} {f:Fun} {az:List Val} {g r:Nat} {v:Val} (h:vC (qM C) f az g=.ok v r):r < g:=z0z (qV C) h
theorem j4s {C:Ctx}:∀{os:List Bs} {g r:Nat} {vs:List Val},xC C os g=.ok vs r->r<=g/\(os≠[]->r < g)
 | [],g,r,vs,h=>by simp only [xC,Ev.ok.injEq] at h;exact ⟨by omega,fun h=>absurd rfl h⟩
 | o::os,g,r,vs,h=>by
  simp only [xC] at h
  split at h
  ·cases h
  ·obtain ⟨v,g1,h1,a⟩:=Ev.bind_ok h
   obtain ⟨l,d,b,c⟩:=Ev.bind_ok a
   simp only [Ev.ok.injEq] at c
   have:=dI h1
   have:=(j4s b).1
   exact ⟨by omega,fun _=>by omega⟩
theorem j8h {C:Ctx}:∀{os:List Bs} {g r:Nat} {vs:List Val},xC C os g=.ok vs r->∀r',xC C os (g - r+r')=.ok vs r'
 | [],g,r,vs,h,r'=>by
  simp only [xC,Ev.ok.injEq] at h ⊢
  exact ⟨h.1,by omega⟩
 | o::os,g,r,vs,h,r'=>by
  simp only [xC] at h ⊢
  split at h
  ·cases h
  ·rename_i f i
   obtain ⟨v,g1,h1,e⟩:=Ev.bind_ok h
   obtain ⟨l,a,b,c⟩:=Ev.bind_ok e
   simp only [Ev.ok.injEq] at c
   obtain ⟨rfl,rfl⟩:=c
   have j:=dI h1
   have k:=(j4s b).1
   have d:g - a+r'=g - g1+(g1 - a+r'):=by omega
   try simp only
   rw [d,y8j h1]
   simp only [Ev.bind]
   rw [j8h b]
theorem q4q {c:Core} {P:Ex->Prop} (a:Right c) {inp:List (Bs×Val)} (b:Closed (zI c) ⟨(zI c).funs,inp⟩ P) {n:Bs} {f:Fun} {vs:List Val} (h:zL (zI c).funs n=some f) (hb:P f.body) (d:sV (zI c) vs (f.params.map Param.type)) (g:Nat) :
  Good (zI c) (vC (qM ⟨(zI c).funs,inp⟩) f vs g) f.result :=
 y8k (z2c a) h hb d (fun e s env t=>sound (z2c a) b g e s env t)
theorem uW {T:Table}:∀{l seen:List Bs},kS T seen l=true->∀o∈l,∃f,zL T.funs o=some f/\f.params=[]
 | [],_,_,_,h=>by cases h
 | p::l,seen,a,o,b=>by
  simp only [kS] at a
  split at a
  ·cases a
  ·rename_i f c
   simp only [baQ,decide_eq_true_eq] at a
   rcases List.mem_cons.1 b with rfl | b
   ·exact ⟨f,c,List.eq_nil_of_length_eq_zero a.1.1⟩
   ·exact uW a.2 o b
theorem j4t {c:Core} (b:Right c) {inp:List (Bs×Val)} (e:Closed (zI c) ⟨(zI c).funs,inp⟩ (fun _=>True)):∀{os:List Bs},(∀o∈os,o∈c.outputs)->∀g,xC ⟨(zI c).funs,inp⟩ os g≠.stuck /\
  ∀vs r,xC ⟨(zI c).funs,inp⟩ os g=.ok vs r->All2 (fun o v=>∃f,zL (zI c).funs o=some f/\pV (zI c) v f.result=true) os vs
 | [],_,g=>⟨fun h=>(by cases h),fun vs r h=>by simp only [xC,Ev.ok.injEq] at h;obtain ⟨rfl,rfl⟩:=h;trivial⟩
 | o::os,i,g=>by
  obtain ⟨f,d,j⟩:=uW b.oOk o (i o msQ)
  obtain ⟨m,n⟩:=q4q b e (vs:=[]) d trivial (by rw [j];trivial) g
  simp only [xC,d]
  cases hr:vC (qM ⟨(zI c).funs,inp⟩) f [] g with
  | stuck=>exact absurd hr m
  | spent=>exact ⟨fun h=>(by cases h),fun vs r h=>by cases h⟩
  | ok v g1=>
   obtain ⟨p,q⟩:=j4t b e (os:=os) (fun x k=>i x (mcQ _ k)) g1
   simp only [Ev.bind]
   cases a:xC ⟨(zI c).funs,inp⟩ os g1 with
   | stuck=>exact absurd a p
   | spent=>exact ⟨fun h=>(by cases h),fun vs r h=>by cases h⟩
   | ok l s=>
    refine ⟨fun h=>(by cases h),fun vs r h=>?_⟩
    simp only [Ev.ok.injEq] at h
    obtain ⟨rfl,rfl⟩:=h
    exact ⟨⟨f,d,n _ _ hr⟩,q _ _ a⟩
end Go.Sw

namespace Go.Sw
variable {P:Program} {n:Nat} {E:List (Nat×Value)} {D:List Deferred} {a:Act} {V Ψ:Fz} {K:List Res} {w:World}
variable {dst:Option Tmp} {ty:TypeId} {pos:String} {aft:Array Edge} {g:Option (Nat×Bool)}
variable {Kn:Value->World->Prop} {Qp:List PanicEntry->World->Prop}
def gT:List (Int×Value)->Int->Option Value
 | [],_=>none
 | (k,v)::m,s=>if s=k then some v else gT m s
def iput:List (Int×Value)->Int->Value->List (Int×Value)
 | [],s,x=>[(s,x)]
 | (k,v)::m,s,x=>if s=k then (k,x)::m else (k,v)::iput m s x
def idel:List (Int×Value)->Int->List (Int×Value)
 | [],_=>[]
 | (k,v)::m,s=>if s=k then m else (k,v)::idel m s
def IMapAt (V:Fz) (b:Nat) (m:List (Int×Value)):Prop:=∃es clock,V.obj b=some (.map es clock)/\MapOkI es clock m
theorem IMapAt.mono {b:Nat} {m:List (Int×Value)} (h:IMapAt V b m) (hl:V.Le Ψ):IMapAt Ψ b m:=let ⟨es,c,h1,a⟩:=h;⟨es,c,hl.obj _ _ h1,a⟩
def z1i:List (Int×Value)->Int->Nat->Option (Nat×Value)
 | [],_,_=>none
 | (k,v)::m,s,i=>if s=k then some (i,v) else z1i m s (i+1)
theorem z5f:∀(es:List MapEntry) (m:List (Int×Value)) (s:Int) (i:Nat),es.map (fun e=>(e.key,e.val))=m.map (fun p=>(Value.int .i64 p.1,p.2)) ->
  Instr.findNow (.int .i64) (.int .i64 s) es i=some (z1i m s i)
 | [],[],_,_,_=>rfl
 | [],_::_,_,_,h=>by simp at h
 | _::_,[],_,_,h=>by simp at h
 | e::es,(k,v)::m,s,i,h=>by
  simp only [List.map_cons,List.cons.injEq,Prod.mk.injEq] at h
  obtain ⟨⟨h1,a⟩,b⟩:=h
  simp only [Instr.findNow,h1,Instr.sameNow,if_true,z1i]
  by_cases O:s=k
  ·subst O;simp [a]
  ·have hb:(s==k)=false:=by simpa using O
   simp only [hb,if_neg O]
   exact z5f es m s (i+1) b
theorem y9o:∀(m:List (Int×Value)) (s:Int) (i:Nat),(z1i m s i).map (·.2)=gT m s
 | [],_,_=>rfl
 | (k,v)::m,s,i=>by
  simp only [z1i,gT]
  split
  ·rfl
  ·exact y9o m s (i+1)
theorem z3r {kt:TypeId} (a:Under P kt (.int .i64)) (e:Bool) (v:Value) (j:Nat):(Instr.checkKey e (j+1) kt v).run P w=.ok () w:=by
 simp [Instr.checkKey,Sem.run_bind,a w]
theorem z6c {kt:TypeId} (a:Under P kt (.int .i64)) {es:Array MapEntry} {m:List (Int×Value)} (h:es.toList.map (fun e=>(e.key,e.val))=m.map (fun p=>(Value.int .i64 p.1,p.2))) (s:Int) :
  (Instr.findKey kt (.int .i64 s) es.toList).run P w=.ok (z1i m s 0) w:=by
 simp [Instr.findKey,Sem.run_bind,a w,z5f _ _ _ _ h]
theorem q7k {t kt et:TypeId} {b:Nat} {es:Array MapEntry} {clock:Nat} {m:List (Int×Value)} {z:Value} (c:Under P t (.map kt et)) (a:Under P kt (.int .i64)) (d:ZeroT P et z)
  (hb:w.heap[b]? = some (.map es clock)) (h:MapOkI es clock m) (s:Int) (ok:Bool) :
  (Instr.lookup t (.map (some b)) (.int .i64 s) ok).run P w=.ok (zK ok z (gT m s)) w:=by
 have h1:(getObj b).run P w=.ok (.map es clock) w:=by simp [getObj,Sem.run,hb]
 simp only [Instr.lookup,Sem.run_bind,c w,Result.andThen_ok,h1,Sem.run_pure,z3r a,z6c a h.eq]
 have:=y9o m s 0
 cases N:z1i m s 0 with
 | none=>rw [N] at this;simp only [Option.map_none] at this;rw [<- this];simp [d w,zK]
 | some p=>rw [N] at this;simp only [Option.map_some] at this;rw [<- this];simp [zK]
theorem xS (i:Nat) {t kt et:TypeId} {x y:Operand} {b:Nat} {m:List (Int×Value)} {z:Value} {s:Int} {ok:Bool} (f:Under P t (.map kt et)) (e:Under P kt (.int .i64)) (j:ZeroT P et z)
  (J:EnvR n E D a) (N:Sees V K w) (g:ev E x=some (.map (some b))) (h:ev E y=some (.int .i64 s)) (d:qI K i=some (.imp b m)):Ok P a (.lookup t x y ok) ty w (zK ok z (gT m s)):=fun _ _ _ _=>by
 obtain ⟨es,clock,h1,c⟩:=N.own _ (yN d)
 simp only [execOp,J.ev g,J.ev h]
 simp [Sem.run_bind,q7k f e j h1 c]
theorem q2b {t:TypeId} (N:Mem V K w) (k:∀b w',Mem V (.imp b []::K) w'->Kn (.map (some b)) w'):Oper.eff P ⟨dst,.makeMap t none,ty,pos,aft,g⟩ a w Kn Qp:=by
 unfold Oper.eff
 have:(execOp a.eval ⟨dst,.makeMap t none,ty,pos,aft,g⟩).run P w=.ok (.value (.map (some w.heap.size))) { w with heap:=w.heap.push (.map #[] 0) }:=by
  simp [execOp,Instr.makeMap]
 rw [this]
 refine k _ _ (N.more rfl rfl (fun b hb=>dK hb) ⟨#[],0,by simp,by simp,by simp,by simp⟩ (by simp [Res.foot]))
theorem j4k:∀(m:List (Int×Value)) (s:Int) (v:Value) (j:Nat),iput m s v=match z1i m s j with | none=>m++[(s,v)] | some (i,_)=>m.set (i - j) (s,v)
 | [],_,_,_=>rfl
 | (k,x)::m,s,v,j=>by
  simp only [iput,z1i]
  split
  ·subst_vars;simp
  ·have:=j4k m s v (j+1)
   rw [this]
   have a:∀(m:List (Int×Value)) (j i:Nat) (y:Value),z1i m s j=some (i,y)->j<=i:=by
    intro m
    induction m with
    | nil=>intro j i y h;simp [z1i] at h
    | cons p m b=>
     intro j i y h
     obtain ⟨k,x⟩:=p
     simp only [z1i] at h
     split at h
     ·simp only [Option.some.injEq,Prod.mk.injEq] at h;omega
     ·have:=b (j+1) i y h;omega
   cases N:z1i m s (j+1) with
   | none=>simp
   | some p=>
    obtain ⟨i,y⟩:=p
    have h1:=a m (j+1) i y N
    have e:i - j=(i - (j+1))+1:=by omega
    simp only [e,List.set_cons_succ]
theorem q5s:∀(m:List (Int×Value)) (s:Int) (j i:Nat) (y:Value),z1i m s j=some (i,y)->m[i - j]? = some (s,y)/\j<=i
 | [],_,_,_,_,h=>by simp [z1i] at h
 | (k,x)::m,s,j,i,y,h=>by
  simp only [z1i] at h
  split at h
  ·simp only [Option.some.injEq,Prod.mk.injEq] at h
   obtain ⟨rfl,rfl⟩:=h;subst_vars;simp
  ·obtain ⟨h1,a⟩:=q5s m s (j+1) i y h
   have e:i - j=(i - (j+1))+1:=by omega
   exact ⟨by rw [e];simpa using h1,by omega⟩
theorem y2p (i:Nat) {t kt et:TypeId} {x y z:Operand} {b:Nat} {m:List (Int×Value)} {s:Int} {v:Value} (X:Under P t (.map kt et)) (T:Under P kt (.int .i64))
  (J:EnvR n E D a) (N:Mem V K w) (F:ev E x=some (.map (some b))) (Y:ev E y=some (.int .i64 s)) (Z:ev E z=some v) (R:qI K i=some (.imp b m))
  (k:∀w',Mem V (wH K i (.imp b (iput m s v))) w'->Kn undef w'):Oper.eff P ⟨dst,.mapUpdate t x y z,ty,pos,aft,g⟩ a w Kn Qp:=by
 obtain ⟨es,clock,hb,f⟩:=N.own _ (yN R)
 have h1:(getObj b).run P w=.ok (.map es clock) w:=by simp [getObj,Sem.run,hb]
 have L:b < w.heap.size:=(Array.getElem?_eq_some_iff.1 hb).1
 have u:∀o,(setObj b o).run P w=.ok () { w with heap:=w.heap.setIfInBounds b o }:=fun o=>by simp only [setObj,Sem.run,hb]
 have fin:∀es' clock',MapOkI es' clock' (iput m s v)->Mem V (wH K i (.imp b (iput m s v))) { w with heap:=w.heap.setIfInBounds b (.map es' clock') }:=fun es' clock' h=>
  N.upd R rfl rfl (fun c S M=>by simp only;rw [Array.getElem?_setIfInBounds_ne (fun e=>M (by simp [Res.foot,e]))]) ⟨es',clock',by simp [L],h⟩ (.inl rfl)
 unfold Oper.eff
 simp only [execOp,J.ev F,J.ev Y,J.ev Z,Instr.mapUpdate,Sem.run_bind,X w,Result.andThen_ok,h1,z3r T,z6c T f.eq]
 have d:=j4k m s v 0
 cases C:z1i m s 0 with
 | none=>
  rw [C] at d
  simp only at d
  simp only [u,Result.andThen_ok,Sem.run_pure,pQ]
  refine k _ (fin _ _ ⟨?_,?_,?_⟩)
  ·rw [d];simp [f.eq]
  ·intro e J
   simp only [Array.toList_push,List.mem_append,List.mem_singleton] at J
   rcases J with J | rfl
   ·have:=f.old e J;omega
   ·simp
  ·simp only [Array.toList_push,List.map_append,List.map_cons,List.map_nil]
   rw [List.nodup_append]
   refine ⟨f.nodup,by simp,fun b hb c S U=>?_⟩
   simp only [List.mem_singleton] at S
   obtain ⟨e,J,rfl⟩:=List.mem_map.1 hb
   have:=f.old e J
   omega
 | some p=>
  obtain ⟨j,y⟩:=p
  rw [C] at d
  simp only [Nat.sub_zero] at d
  obtain ⟨H,_⟩:=q5s m s 0 j y C
  simp only [Nat.sub_zero] at H
  have l:es.toList[j]?.map (fun e=>(e.key,e.val))=some (Value.int .i64 s,y):=by
   rw [<- List.getElem?_map,f.eq,List.getElem?_map,H];rfl
  obtain ⟨e,A,G⟩:∃e,es[j]? = some e/\e.key=.int .i64 s:=by
   cases h:es[j]? with
   | none=>
    have h':es.toList[j]? = none:=by simpa using h
    rw [h'] at l;cases l
   | some e=>
    have h':es.toList[j]? = some e:=by simpa using h
    rw [h'] at l;simp only [Option.map_some,Option.some.injEq,Prod.mk.injEq] at l;exact ⟨e,rfl,l.1⟩
  have I:(Instr.keyThatStays (((es[j]?).map (·.key)).getD (.int .i64 s)) (.int .i64 s)).run P w=.ok (.int .i64 s) w:=by
   simp [A,G,Instr.keyThatStays,Instr.sameBits,sW]
  simp only [Sem.run_bind,I,u,Result.andThen_ok,Sem.run_pure,pQ]
  have W:j < es.size:=(Array.getElem?_eq_some_iff.1 A).1
  have B:(es.modify j fun e=>{ e with key:=Value.int .i64 s,val:=v }).toList=es.toList.modify j (fun e=>{ e with key:=Value.int .i64 s,val:=v }):=by simp
  refine k _ (fin _ _ ⟨?_,?_,?_⟩)
  ·rw [B,d]
   apply List.ext_getElem?
   intro q
   have hq:es.toList[q]?.map (fun e=>(e.key,e.val))=m[q]?.map (fun p=>(Value.int .i64 p.1,p.2)):=by rw [<- List.getElem?_map,f.eq,List.getElem?_map]
   simp only [List.getElem?_map,List.getElem?_modify,List.getElem?_set]
   by_cases r:j=q
   ·subst r
    have hml':j < m.length:=(List.getElem?_eq_some_iff.1 H).1
    have h':es.toList[j]? = some e:=by simpa using A
    simp [h',hml']
   ·have hq':=hq
    simp only [Array.getElem?_toList] at hq'
    simp [r,hq']
  ·intro x F
   rw [B] at F
   obtain ⟨q,hq⟩:=List.mem_iff_getElem?.1 F
   rw [List.getElem?_modify] at hq
   cases hz':es.toList[q]? with
   | none=>rw [hz'] at hq;simp at hq
   | some e'=>
    rw [hz'] at hq
    have hb':=f.old e' (mgQ hz')
    have Q:=Option.some.inj hq
    rw [<- Q]
    show (if j=q then _ else _:MapEntry).born < clock
    by_cases r:j=q
    ·rw [if_pos r];exact hb'
    ·rw [if_neg r];exact hb'
  ·rw [B]
   have:(es.toList.modify j (fun e=>{ e with key:=Value.int .i64 s,val:=v })).map (·.born)=es.toList.map (·.born):=by
    apply List.ext_getElem?
    intro q
    simp only [List.getElem?_map,List.getElem?_modify]
    cases es.toList[q]? with
    | none=>simp
    | some e'=>simp;split <;> rfl
   rw [this];exact f.nodup
theorem wM (i:Nat) {t kt et:TypeId} {x y z:Operand} {b:Nat} {m:List (Int×Value)} {s:Int} {v:Value} (e:Under P t (.map kt et)) (d:Under P kt (.int .i64))
  (J:EnvR n E D a) (N:Mem V K w) (f:ev E x=some (.map (some b))) (h:ev E y=some (.int .i64 s)) (j:ev E z=some v) (c:qI K i=some (.imp b m))
  (k:∀w',Mem V (wH K i (.imp b (iput m s v))) w'->Kn undef w'):Oper.eff P ⟨dst,.insert t x y z,ty,pos,aft,g⟩ a w Kn Qp :=
 show Oper.eff P ⟨dst,.mapUpdate t x y z,ty,pos,aft,g⟩ a w Kn Qp from y2p i e d J N f h j c k
end Go.Sw

namespace Go.Sw
theorem Row.one {V:Fz} {v:Value} {k:Nat} {cs:List Value} (h:Row V v k cs):Value.oneCell' v=true:=by
 rcases h with ⟨rfl,_⟩ | ⟨q,m,c,rfl,_⟩ <;> rfl
theorem SliceOf.one {α:Type} {R:Fz->List Value->α->Prop} {V:Fz} {k:Nat} {v:Value} {xs:List α} (h:SliceOf R V k v xs):Value.oneCell' v=true :=
 let ⟨_,h1,_⟩:=h;h1.one
def y6n {α:Type} (R:Fz->List Value->α->Prop):Prop:=∀V c x,R V c x->c.all Value.oneCell'=true
theorem Chunks.ones {α:Type} {R:Fz->List Value->α->Prop} (a:y6n R) {V:Fz} {k:Nat}:∀{xs:List α} {cs:List Value},Chunks (R V) k cs xs->cs.all Value.oneCell'=true
 | [],cs,h=>by simp only [Chunks] at h;subst h;rfl
 | x::xs,cs,⟨c,rest,h1,_,b,d⟩=>by
  subst h1
  rw [List.all_append,a _ _ _ b,Chunks.ones a d];rfl
theorem RStr.ones:y6n RStr:=fun _ c x h=>by cases h;rfl
theorem RVal.ones:y6n RVal:=fun _ c x h=>by
 obtain ⟨s,rfl,_,h1⟩:=RVal.iff.1 h
 simp only [List.all_cons,h1.one];rfl
theorem REx.ones:y6n REx:=fun _ c x h=>by
 obtain ⟨s,t,rfl,_,h1,a⟩:=REx.iff.1 h
 simp only [List.all_cons,h1.one,a.one];rfl
theorem RArm.ones:y6n RArm:=fun V c x h=>by
 obtain ⟨s,b,rfl,h1,a⟩:=RArm.iff.1 h
 have:=REx.ones V b x.body a
 simp only [List.all_cons,h1.one,this];rfl
theorem RParam.ones:y6n RParam:=fun _ c x h=>by cases h;rfl
theorem RCon.ones:y6n RCon:=fun _ c x h=>by
 obtain ⟨s,rfl,h1⟩:=h
 simp only [List.all_cons,h1.one];rfl
theorem RData.ones:y6n RData:=fun _ c x h=>by
 obtain ⟨s,rfl,h1⟩:=h
 simp only [List.all_cons,h1.one];rfl
theorem RFun.ones:y6n RFun:=fun V c x h=>by
 obtain ⟨s,b,rfl,h1,a⟩:=h
 have:=REx.ones V b x.body a
 simp only [List.all_cons,h1.one,this];rfl
theorem RNamed.ones:y6n RNamed:=fun V c x h=>by
 obtain ⟨b,rfl,a⟩:=h
 have:=RVal.ones V b x.value a
 simp only [List.all_cons,this];rfl
section
variable {P:Program} {n:Nat} {E:List (Nat×Value)} {D:List Deferred} {a:Act} {V Ψ:Fz} {K:List Res} {w:World}
end
theorem oH (ok:Bool) (ds:List (Bs×Data)) (m:List (Bs×Maker)) (d:Data) (l:List Data) :
  tC ok ds m (d::l)=tC (xR d.name (aA ok ds d) m d.cons).1 (pO ok ds d) (xR d.name (aA ok ds d) m d.cons).2 l:=rfl
theorem x5l {c:Core} {a:List (Bs×Data)} {b:List (Bs×Maker)} {f g h:Bool} {d:List (Bs×Fun)} {e:List (Bs×Bs)} (h1:tC true [] [] (truthsD::c.datas)=(f,a,b)) (k:tD f [] c.funs=(g,d)) (l:tE g [] c.inputs=(h,e)) :
  zI c=⟨c,a,b,d,e⟩/\wY c=h:=by
 have i:dsP c=(f,a,b):=h1
 have e2:fsP c=(g,d):=by unfold fsP;rw [i];exact k
 have j:isP c=(h,e):=by unfold isP;rw [e2];exact l
 unfold zI wY
 rw [i,e2,j];exact ⟨rfl,rfl⟩
end Go.Sw

namespace Go.Sw
mutual
theorem z3b:∀(e:Ex) (l:Int),(qU e l).1=false->((zQ e).length:Int)+16+17 * (qU e l).2<=17 * l
 | .mk k n s args arms,l=>by
  intro h
  rw [z5t] at h ⊢
  by_cases hl:l - 1 < 0
  ·rw [if_pos hl] at h;cases h
  ·rw [if_neg hl] at h ⊢
   simp only [Ex.args,Ex.arms] at h ⊢
   have h1:=meass_bind args (l - 1)
   cases N:meass args (l - 1) with
   | mk b q=>
    rw [N] at h h1
    cases b with
    | true=>cases h
    | false=>
     have a:=measa_bind arms q h
     have f:=h1 rfl
     simp only [z1t] at h a f ⊢
     simp only [zQ,laQ]
     split <;> simp <;> omega
theorem meass_bind:∀(es:List Ex) (l:Int),(meass es l).1=false->((bindPs es).length:Int)+17 * (meass es l).2<=17 * l
 | [],l=>by intro _;simp [meass,bindPs]
 | e::es,l=>by
  intro h
  rw [uU] at h ⊢
  by_cases hb:(qU e l).1=true
  ·rw [if_pos hb] at h;cases h
  ·rw [if_neg hb] at h ⊢
   have h1:=z3b e l (by simpa using hb)
   have a:=meass_bind es _ h
   simp only [bindPs,laQ]
   omega
theorem measa_bind:∀(es:List Arm) (l:Int),(measa es l).1=false->((bindPa es).length:Int)+17 * (measa es l).2<=17 * l
 | [],l=>by intro _;simp [measa,bindPa]
 | .mk c vs b::es,l=>by
  intro h
  have e:=oY (.mk c vs b) es l
  change measa (.mk c vs b::es) l=(if 16 < vs.length then (true,l) else if (qU b l).1 then (true,(qU b l).2) else measa es (qU b l).2) at e
  rw [e] at h ⊢
  by_cases d:16 < vs.length
  ·rw [if_pos d] at h;cases h
  ·rw [if_neg d] at h ⊢
   by_cases hb:(qU b l).1=true
   ·rw [if_pos hb] at h;cases h
   ·rw [if_neg hb] at h ⊢
    have h1:=z3b b l (by simpa using hb)
    have a:=measa_bind es _ h
    simp only [bindPa,laQ]
    omega
end
theorem q0b:∀{fs:List Fun} {l:Int},aN fs l=false->l<=6000->∀f∈fs,f.params.length<=16/\(zQ f.body).length<=102000
 | [],_,_,_,_,h=>by cases h
 | g::fs,l,h,hl,f,a=>by
  simp only [aN,Bool.or_eq_false_iff,decide_eq_false_iff_not] at h
  have h1:=z3b g.body l h.1.2
  have b:=kJ g.body l h.1.2
  rcases List.mem_cons.1 a with rfl | a
  ·exact ⟨by omega,by omega⟩
  ·exact q0b h.2 (by omega) f a
theorem z5r {c:Core} (h:xX c=false) {f:Fun} (a:f∈c.funs):f.params.length<=16/\(zQ f.body).length<=102000:=by
 simp only [xX,Bool.or_eq_false_iff] at h
 exact q0b h.2 (by omega) f a
theorem dW {c:Core} (h:wY c=true) {n:Bs} {f:Fun} (a:zL (zI c).funs n=some f):f∈c.funs:=by
 obtain ⟨g,_⟩:=uD (show (tE (fsP c).1 [] c.inputs).1=true from h)
 obtain ⟨_,b,_⟩:=uC (show (tD (dsP c).1 [] c.funs).1=true from g)
 have e:(zI c).funs=vG Fun.name id c.funs:=b
 rw [e] at a
 obtain ⟨x,d,_,rfl⟩:=xM a
 exact d
theorem z6i {c:Core} (hl:xX c=false) (h:wY c=true):∀n f,zL (zI c).funs n=some f->f.params.length<=1000:=fun n f a=>by
 have:=(z5r hl (dW h a)).1;omega
theorem pY {α:Type} {l:List α} {p:α->Bool} {i:Nat} {x:α} (h:l[i]? = some x):(l.drop i).all p=(p x&&(l.drop (i+1)).all p):=by
 rw [zA h];rfl
theorem q1m {α:Type} {l:List α} {p:α->Bool} {i:Nat} (h:¬i < l.length):(l.drop i).all p=true:=by
 rw [zE h];rfl
theorem z8r {α:Type} {l:List α} {p:α->Bool} (h:l.any (fun x=> !p x)=false):l.all p=true:=by
 induction l with
 | nil=>rfl
 | cons x l a=>
  simp only [List.any_cons,Bool.or_eq_false_iff,Bool.not_eq_false'] at h
  simp only [List.all_cons,h.1,a h.2];rfl
theorem z8s {α:Type} {l:List α} {p:α->Bool} (h:l.any (fun x=> !p x)=true):l.all p=false:=by
 induction l with
 | nil=>cases h
 | cons x l a=>
  simp only [List.any_cons,Bool.or_eq_true,Bool.not_eq_true'] at h
  simp only [List.all_cons]
  rcases h with h | h
  ·rw [h];rfl
  ·rw [a h];simp
def eqF {α β:Type} (p:α->β->Bool):List α->List β->Bool
 | [],[]=>true
 | x::xs,y::ys=>p x y&&eqF p xs ys
 | _,_=>false
theorem q2c {α β:Type} {p:α->β->Bool}:∀{l:List α} {m:List β},l.length≠m.length->eqF p l m=false
 | [],[],h=>absurd rfl h
 | [],_::_,_=>rfl
 | _::_,[],_=>rfl
 | x::xs,y::ys,h=>by simp only [eqF,q2c (l:=xs) (m:=ys) (by simpa using h),Bool.and_false]
theorem y9k (T:Table):∀(l:List Named) (ps:List Param),pN T l ps=eqF (fun v p=>decide (v.name=p.name) && !kR v.value&&pV T v.value p.type) l ps
 | [],[]=>rfl
 | v::vs,p::ps=>by simp only [pN,eqF,y9k T vs ps]
 | [],_::_=>rfl
 | _::_,[]=>rfl
theorem z7r (T:Table):∀(l:List Val) (ps:List Param),gA T l ps=eqF (fun v p=> !kR v&&pV T v p.type) l ps
 | [],[]=>rfl
 | v::vs,p::ps=>by simp only [gA,eqF,z7r T vs ps]
 | [],_::_=>rfl
 | _::_,[]=>rfl
theorem z4d:∀(l:List Val) (s:Int) (i:Nat),(larges l s).1=z3h (fun s x=>jX x s) s l/\(larges l s).2=(yI (fun s x=>jX x s) s l i).2
 | [],s,i=>⟨rfl,rfl⟩
 | v::vs,s,i=>by
  simp only [larges,z3h,yI]
  cases h:jX v s with
  | mk b q=>cases b with
   | true=>exact ⟨rfl,rfl⟩
   | false=>exact z4d vs q (i+1)
theorem z7x (v:Val) (l:Int):jX v l=if IntKind.i64.wrap (l - 1) < 0 then (true,IntKind.i64.wrap (l - 1)) else larges v.args (IntKind.i64.wrap (l - 1)):=by
 cases v;rfl
section
variable {P:Program} {n:Nat} {E:List (Nat×Value)} {D:List Deferred} {a:Act} {V Ψ:Fz} {K K':List Res} {w:World}
variable {Kn:Value->World->Prop} {Qp:List PanicEntry->World->Prop} {dst:Option Tmp} {ty:TypeId} {pos:String} {aft:Array Edge} {g:Option (Nat×Bool)}
variable {f:FuncId} {xs:Array Operand} {ts:Array TypeId} {vs fs cs:List Value} {y:Operand}
theorem oP {β:Type} {X:β->Value} {F1:β->Fz} {KO:β->List Res} {G:β->Prop} (J:EnvR n E D a) (m:ev E y=some (.func (.func f) fs.toArray cs.toArray)) (l:evs E xs.toList=some vs) (j:∀args w,(callFunc f args).run P w=.ok (.enter f args) w)
  (i:Calls P f (fs++vs++cs).toArray w (fun e w'=>∃y,e=.returned (X y)/\G y/\Mem (F1 y) (KO y) w')) (k:∀y w',G y->Mem (F1 y) (KO y) w'->Kn (X y) w') :
  Oper.eff P ⟨dst,.call { callee:=.value y,args:=xs,argTypes:=ts },ty,pos,aft,g⟩ a w Kn Qp :=
 z7m J m l j i (fun v w' h=>by obtain ⟨y,h1,b,d⟩:=h;cases h1;exact k _ _ b d) (fun c w' h=>by obtain ⟨y,h1,_⟩:=h;cases h1) (fun w' h=>by obtain ⟨y,h1,_⟩:=h;cases h1)
theorem Sees.gsSome {i j m c k:Nat} {p:Option Addr} {T:TypeId} {cells:List Value} (N:Sees V K w) (d:qI K i=some (.gs (.slice p m c) T k cells)) (e:j < m):∃q,p=some q:=by
 obtain ⟨nn,_,a⟩:=N.own _ (yN d)
 rcases a with ⟨h,_⟩ | ⟨b,cap,cur,h,_⟩
 ·simp only [Value.slice.injEq] at h;omega
 ·simp only [Value.slice.injEq] at h;exact ⟨_,h.1⟩
theorem j9w (i j:Nat) {x:Operand} {T b:TypeId} {q:Addr} {m c k:Nat} {cells:List Value} {v:Value} (J:EnvR n E D a) (N:Sees V K w)
  (l:ev E x=some (.pointer (some (q.add (j * k))))) (f:qI K i=some (.gs (.slice (some q) m c) b k cells)) (g:cells[j * k]? = some v) (e:Scalar P T):Ok P a (.load T x) ty w v:=fun _ _ _ _=>by
 have h1:w.cell? (q.add (j * k))=some v:=by
  rcases N.rowIn f with ⟨h,_⟩ | ⟨q',m',c',h,_,d⟩
  ·cases h
  ·simp only [Value.slice.injEq,Option.some.injEq] at h
   obtain ⟨rfl,rfl,rfl⟩:=h
   exact d _ _ g
 simp only [execOp,J.ev l]
 simp [Instr.loadAt,Instr.sureAddr,loadVar,Sem.run_bind,e w,Result.andThen,load,Sem.run,h1]
end
def z3i (l:List Int):List Value:=l.map (.int .i64)
theorem z9d (l:List Int):(z3i l).length=l.length:=by simp [z3i]
def gG (l:List Int):Int:=l.foldl (fun a x=>IntKind.i64.wrap (a+x)) 0
theorem sL (T:Table) (v:Val) (name:Bs):pV T v name =
  if v.con=sNo∨name=yB then decide (v.con=sNo)&&decide (name=yB)&&decide (v.args.length=0)
  else match zL T.cons v.con with
   | none=>false
   | some m=>decide (m.data=name)&&decide (v.num=0)&&decide (m.con.fields.length=v.args.length)&&hasL T v.args m.con.fields:=by
 cases v;rfl
theorem j7h (T:Table) (v:Val) (vs:List Val) (f:Bs) (fs:List Bs):hasL T (v::vs) (f::fs)=(pV T v f&&hasL T vs fs):=rfl
def z8q (v:Val):Prop:=∃l:Int,0<=l/\l<=4000/\(jX v l).1=false
mutual
theorem y9x:∀(v:Val) (l:Int),0<=l->l<=4000->(jX v l).1=false->0<=(jX v l).2/\(jX v l).2 < l
 | .mk c n args,l=>by
  intro a h1 h
  simp only [jX] at h ⊢
  have e:IntKind.i64.wrap (l - 1)=l - 1:=yD (by omega)
  rw [e] at h ⊢
  split at h
  ·cases h
  ·rename_i hl
   rw [if_neg hl]
   have:=larges_le args (l - 1) (by omega) (by omega) h
   omega
theorem larges_le:∀(vs:List Val) (l:Int),0<=l->l<=4000->(larges vs l).1=false->0<=(larges vs l).2/\(larges vs l).2+vs.length<=l
 | [],l=>by intro a _ _;simp only [larges];simp;omega
 | v::vs,l=>by
  intro a h1 h
  simp only [larges] at h ⊢
  have d:=y9x v l a h1
  cases N:jX v l with
  | mk b q=>
   rw [N] at h d
   cases b with
   | true=>cases h
   | false=>
    have f:=d rfl
    simp only at f h ⊢
    have g:=larges_le vs q (by omega) (by omega) h
    simp only [lcQ]
    omega
end
theorem z5p:∀{vs:List Val} {l:Int},0<=l->l<=4000->(larges vs l).1=false->∀x∈vs,z8q x
 | [],_,_,_,_,x,a=>by cases a
 | v::vs,l,c,h1,h,x,a=>by
  simp only [larges] at h
  have d:=y9x v l c h1
  cases N:jX v l with
  | mk b q=>
   rw [N] at h d
   cases b with
   | true=>cases h
   | false=>
    have e:=d rfl
    simp only at e h
    rcases List.mem_cons.1 a with rfl | a
    ·exact ⟨l,c,h1,by rw [N]⟩
    ·exact z5p (l:=q) (by omega) (by omega) h x a
theorem y5i {v:Val} (h:z8q v):v.args.length<=4000/\∀x∈v.args,z8q x:=by
 obtain ⟨l,a,h1,h⟩:=h
 rw [z7x,show IntKind.i64.wrap (l - 1)=l - 1 from yD (by omega)] at h
 split at h
 ·cases h
 ·have:=larges_le v.args (l - 1) (by omega) (by omega) h
  exact ⟨by omega,z5p (by omega) (by omega) h⟩
theorem q7v {v:Val} (h:kR v=false):z8q v:=⟨4000,by omega,by omega,h⟩
def pX (e:Ex):Prop:=∃l:Int,l<=6000/\(qU e l).1=false
theorem z9k:∀{es:List Ex} {l:Int},l<=6000->(meass es l).1=false->0<=l->((es.length:Int)<=l)/\∀x∈es,pX x
 | [],l,_,_,g=>⟨by simpa using g,fun x a=>by cases a⟩
 | e::es,l,h1,h,g=>by
  rw [uU] at h
  by_cases hb:(qU e l).1=true
  ·rw [if_pos hb] at h;cases h
  ·have hb':(qU e l).1=false:=by simpa using hb
   rw [if_neg hb] at h
   have c:=kJ e l hb'
   have i:(qU e l).2 < l:=by
    rw [z5t] at hb' c ⊢
    by_cases hl:l - 1 < 0
    ·rw [if_pos hl] at hb';cases hb'
    ·rw [if_neg hl] at hb' c ⊢
     cases N:meass e.args (l - 1) with
     | mk b q=>
      have d:=meass_le e.args (l - 1)
      rw [N] at hb' c d
      cases b with
      | true=>cases hb'
      | false=>
       have f:=d rfl (by omega)
       simp only [z1t] at hb' c f ⊢
       have j:=measa_le e.arms q hb' (by omega)
       omega
   obtain ⟨d,f⟩:=z9k (l:=(qU e l).2) (by omega) h (by omega)
   refine ⟨by simp only [lcQ];omega,fun x a=>?_⟩
   rcases List.mem_cons.1 a with rfl | a
   ·exact ⟨l,h1,hb'⟩
   ·exact f x a
theorem z9j:∀{es:List Arm} {l:Int},l<=6000->(measa es l).1=false->0<=l->∀a∈es,pX a.body/\a.vars.length<=16
 | [],l,_,_,_,a,c=>by cases c
 | b::es,l,h1,h,e,a,c=>by
  rw [oY] at h
  by_cases d:16 < b.vars.length
  ·rw [if_pos d] at h;cases h
  ·rw [if_neg d] at h
   by_cases hb:(qU b.body l).1=true
   ·rw [if_pos hb] at h;cases h
   ·rw [if_neg hb] at h
    have hb':(qU b.body l).1=false:=by simpa using hb
    have f:=kJ b.body l hb'
    rcases List.mem_cons.1 c with rfl | c
    ·exact ⟨⟨l,h1,hb'⟩,by omega⟩
    ·exact z9j (l:=(qU b.body l).2) (by omega) h (by omega) a c
theorem qX {e:Ex} (h:pX e):e.args.length<=6000/\(∀x∈e.args,pX x)/\∀a∈e.arms,pX a.body/\a.vars.length<=16:=by
 obtain ⟨l,h1,h⟩:=h
 rw [z5t] at h
 by_cases hl:l - 1 < 0
 ·rw [if_pos hl] at h;cases h
 ·rw [if_neg hl] at h
  cases N:meass e.args (l - 1) with
  | mk b q=>
   rw [N] at h
   cases b with
   | true=>cases h
   | false=>
    have d:=z9k (es:=e.args) (l:=l - 1) (by omega) (by rw [N]) (by omega)
    have c:=meass_le e.args (l - 1) (by rw [N]) (by omega)
    rw [N] at c
    simp only [z1t] at h c
    exact ⟨by omega,d.2,z9j (by omega) h (by omega)⟩
theorem z9i:∀{fs:List Fun} {l:Int},aN fs l=false->l<=6000->∀f∈fs,pX f.body
 | [],_,_,_,_,h=>by cases h
 | g::fs,l,h,hl,f,a=>by
  simp only [aN,Bool.or_eq_false_iff,decide_eq_false_iff_not] at h
  have b:=kJ g.body l h.1.2
  rcases List.mem_cons.1 a with rfl | a
  ·exact ⟨l,hl,h.1.2⟩
  ·exact z9i h.2 (by omega) f a
theorem cQ {c:Core} (h:xX c=false) {f:Fun} (a:f∈c.funs):pX f.body:=by
 simp only [xX,Bool.or_eq_false_iff] at h
 exact z9i h.2 (by omega) f a
end Go.Sw

namespace Go.Sw
def REnv (V:Fz):Env->Option Addr->Prop
 | [],o=>o=none
 | (n,x)::env,o=>∃p c o',o=some p/\At V p (.string n::c++[.pointer o'])/\c.length=3/\RVal V c x/\REnv V env o'
theorem REnv.mono {V Ψ:Fz} (hl:V.Le Ψ):∀{env:Env} {o:Option Addr},REnv V env o->REnv Ψ env o
 | [],_,h=>h
 | (_,_)::_,_,⟨p,c,o',h1,a,b,d,e⟩=>⟨p,c,o',h1,a.mono hl,b,RVal.mono _ _ _ _ hl d,REnv.mono hl e⟩
def RGiven (V:Fz) (v:Value) (inp:List (Bs×Val)):Prop:=(∃b d,v=.map (some b)/\MapAt V b d/\MapRel (RVa RVal V) d inp)∨(v=.map none/\inp=[])
theorem RGiven.mono {V Ψ:Fz} (hl:V.Le Ψ) {v:Value} {inp:List (Bs×Val)} (h:RGiven V v inp):RGiven Ψ v inp:=by
 rcases h with ⟨b,d,h1,a,c⟩ | h
 ·exact .inl ⟨b,d,h1,a.mono hl,c.mono (RVa.mono RVal.mono hl)⟩
 ·exact .inr h
theorem RGiven.one {V:Fz} {v:Value} {inp:List (Bs×Val)} (h:RGiven V v inp):Value.oneCell' v=true:=by
 rcases h with ⟨b,d,h1,_⟩ | h
 ·subst h1;rfl
 ·rw [h.1];rfl
theorem RGiven.cells {V:Fz} {v:Value} {inp:List (Bs×Val)} (h:RGiven V v inp):v.cells=#[v]:=by
 rcases h with ⟨b,d,h1,_⟩ | h
 ·subst h1;rfl
 ·rw [h.1];rfl
theorem RVal.zero {V:Fz}:RVal V [.string sNo,.int .i64 0,.slice none 0 0] v0:=RVal.iff.2 ⟨_,rfl,⟨by decide,by decide⟩,SliceOf.nil 3⟩
section
variable {P:Program} {n:Nat} {E:List (Nat×Value)} {D:List Deferred} {a:Act} {V Ψ:Fz} {K K':List Res} {w:World}
theorem q2l {t kt et:TypeId} {x y:Operand} {ty:TypeId} {s:Bs} {v:Value} {inp:List (Bs×Val)} (m:RGiven V v inp) (h:Under P t (.map kt et)) (g:Under P kt .string) (k:ZeroT P et (.agg #[.string sNo,.int .i64 0,.slice none 0 0]))
  (J:EnvR n E D a) (N:Sees V K w) (i:ev E x=some v) (j:ev E y=some (.string s)):∃cs,RVal V cs ((zL inp s).getD v0)/\Ok P a (.lookup t x y false) ty w (.agg cs.toArray):=by
 rcases m with ⟨b,d,rfl,l,f⟩ | ⟨rfl,rfl⟩
 ·have hl:=zX (P:=P) (ty:=ty) (w:=w) (ok:=false) h g k J N i j l
  cases c:yO d s with
  | none=>
   rw [c] at hl
   rw [f.none c]
   exact ⟨_,RVal.zero,hl⟩
  | some u=>
   obtain ⟨q,hq,cs,e,hr⟩:=f.get c
   rw [c] at hl
   rw [hq]
   subst e
   exact ⟨cs,hr,hl⟩
 ·exact ⟨_,RVal.zero,q3z (P:=P) (ty:=ty) (w:=w) (ok:=false) h g k J i j⟩
theorem j0z {o:BinOp} {t t':TypeId} {x:Operand} {y:Operand} {p:Addr} {ty:TypeId} (b:o=.neq) (J:EnvR n E D a) (c:ev E x=some (.pointer (some p))) (d:ev E y=some (.pointer none))
  (hb:∀w,(binOp .neq t (.pointer (some p)) (.pointer none)).run P w=.ok (.bool true) w):Ok P a (.binOp o t x y t') ty w (.bool true):=by
 subst b;exact aW J c d rfl (hb w)
theorem j0y {o:BinOp} {t t':TypeId} {x:Operand} {y:Operand} {ty:TypeId} (b:o=.neq) (J:EnvR n E D a) (c:ev E x=some (.pointer none)) (d:ev E y=some (.pointer none))
  (hb:∀w,(binOp .neq t (.pointer none) (.pointer none)).run P w=.ok (.bool false) w):Ok P a (.binOp o t x y t') ty w (.bool false):=by
 subst b;exact aW J c d rfl (hb w)
end
section
variable {P:Program} {n:Nat} {E:List (Nat×Value)} {D:List Deferred} {a:Act} {V Ψ:Fz} {K K':List Res} {w:World}
variable {Kn:Value->World->Prop} {Qp:List PanicEntry->World->Prop} {dst:Option Tmp} {ty:TypeId} {pos:String} {aft:Array Edge} {g:Option (Nat×Bool)}
theorem j6w {t kt et:TypeId} {x y:Operand} {s:Bs} {v:Value} {inp:List (Bs×Val)} (c:RGiven V v inp) (e:Under P t (.map kt et)) (d:Under P kt .string) (i:ZeroT P et (.agg #[.string sNo,.int .i64 0,.slice none 0 0]))
  (J:EnvR n E D a) (N:Sees V K w) (f:ev E x=some v) (h:ev E y=some (.string s)) (k:∀cs,RVal V cs ((zL inp s).getD v0)->Kn (.agg cs.toArray) w):Oper.eff P ⟨dst,.lookup t x y false,ty,pos,aft,g⟩ a w Kn Qp:=by
 obtain ⟨cs,h1,b⟩:=q2l (ty:=ty) c e d i J N f h
 exact mF b (k cs h1)
end
def evX {α:Type} (r:Ev α):Except Unit (α×Nat):=match r with
 | .ok x g=>.ok (x,g)
 | _=>.error ()
theorem wT {α:Type} {r:Ev α} {x:α×Nat} (h:evX r=.ok x):r=.ok x.1 x.2:=by
 cases r with
 | ok y g=>simp only [evX,Except.ok.injEq] at h;subst h;rfl
 | spent=>cases h
 | stuck=>cases h
theorem vH {α:Type} {r:Ev α} {c:Unit} (h:evX r=.error c) (O:r≠.stuck):r=.spent:=by
 cases r with
 | ok y g=>cases h
 | spent=>rfl
 | stuck=>exact absurd rfl O
theorem gK {α:Type} {r:Ev α} {x:α} {g:Nat} {A:α×Nat->Prop} {B:Unit->Prop} (h:r=.ok x g) (a:A (x,g)):Out (evX r) A B:=by subst h;exact a
theorem nL {α:Type} {r:Ev α} {A:α×Nat->Prop} {B:Unit->Prop} (h:r=.spent) (a:B ()):Out (evX r) A B:=by subst h;exact a
theorem jV {α β:Type} {r:Ev α} {f:α->Nat->Ev β} (h:r.bind f≠.stuck):r≠.stuck:=by rintro rfl;exact h rfl
theorem y4b {α β:Type} {r:Ev α} {f:α->Nat->Ev β} {x:α} {g:Nat} (h:r.bind f≠.stuck) (hr:r=.ok x g):f x g≠.stuck:=by subst hr;exact h
theorem pP {α β:Type} {r:Ev α} {f:α->Nat->Ev β} {x:α} {g:Nat} (hr:r=.ok x g):r.bind f=f x g:=by subst hr;rfl
theorem nJ {α β:Type} {r:Ev α} {f:α->Nat->Ev β} (hr:r=.spent):r.bind f=.spent:=by subst hr;rfl
def tB:Unit->List PanicEntry:=fun _=>[{ v:=.iface 177 (.agg #[]),recovered:=false }]
abbrev stepsB (bs n:Nat):Res:=.blk bs (ob [.int .i64 ((n:Nat):Int)] 3)
abbrev runV (p:Addr) (mg:Value) (bs fuel:Nat):Value:=.agg #[.pointer (some p),mg,.pointer (some ⟨bs,0,none⟩),.int .i64 ((fuel:Nat):Int)]
def z0x (T:Table):Prop:=∀n f,zL T.funs n=some f->f.params.length<=1000/\pX f.body
def oJ (P:Program) (T:Table) (inp:List (Bs×Val)) (g:Nat):Prop :=
 ∀{V:Fz} {K:List Res} {w:World} {p:Addr} {d:List Value} {e:Ex} {env:Env} {o:Option Addr} {mg:Value} {bs fuel:Nat},RTable V p T->RGiven V mg inp->REx V d e->REnv V env o->pX e->g<=fuel->fuel<=1000000 ->
  qM ⟨T.funs,inp⟩ g e env≠.stuck->Mem V (stepsB bs (fuel - g)::K) w ->
  Calls P 103 #[runV p mg bs fuel,.agg d.toArray,.pointer o] w (fun ee w'=>Out (evX (qM ⟨T.funs,inp⟩ g e env))
   (fun x=>∃y:Fz×List Value,ee=.returned (.agg y.2.toArray)/\(V.Le y.1/\RVal y.1 y.2 x.1)/\Mem y.1 (stepsB bs (fuel - x.2)::K) w')
   (fun c=>ee=.panicked (tB c)/\Mem V (stepsB bs (fuel+1)::K) w'))
def x0b (P:Program) (T:Table) (inp:List (Bs×Val)) (g:Nat):Prop :=
 ∀{V:Fz} {K:List Res} {w:World} {p:Addr} {l:List Ex} {env:Env} {o:Option Addr} {s mg:Value} {bs fuel:Nat},RTable V p T->RGiven V mg inp->SliceOf REx V 5 s l->REnv V env o->(∀x∈l,pX x)->l.length<=6000->g<=fuel->fuel<=1000000 ->
  xJ (qM ⟨T.funs,inp⟩) env l g≠.stuck->Mem V (stepsB bs (fuel - g)::K) w ->
  Calls P 158 #[runV p mg bs fuel,s,.pointer o] w (fun ee w'=>Out (evX (xJ (qM ⟨T.funs,inp⟩) env l g))
   (fun x=>∃y:Fz×Value,ee=.returned y.2/\(V.Le y.1/\SliceOf RVal y.1 3 y.2 x.1)/\Mem y.1 (stepsB bs (fuel - x.2)::K) w')
   (fun c=>ee=.panicked (tB c)/\Mem V (stepsB bs (fuel+1)::K) w'))
def q4f (P:Program) (T:Table) (inp:List (Bs×Val)) (g:Nat):Prop :=
 ∀{V:Fz} {K:List Res} {w:World} {p:Addr} {d:List Value} {f:Fun} {l:List Val} {s mg:Value} {bs fuel:Nat},RTable V p T->RGiven V mg inp->RFun V d f->SliceOf RVal V 3 s l->f.params.length<=1000->pX f.body->g<=fuel->fuel<=1000000 ->
  vC (qM ⟨T.funs,inp⟩) f l g≠.stuck->Mem V (stepsB bs (fuel - g)::K) w ->
  Calls P 48 #[runV p mg bs fuel,.agg d.toArray,s] w (fun ee w'=>Out (evX (vC (qM ⟨T.funs,inp⟩) f l g))
   (fun x=>∃y:Fz×List Value,ee=.returned (.agg y.2.toArray)/\(V.Le y.1/\RVal y.1 y.2 x.1)/\Mem y.1 (stepsB bs (fuel - x.2)::K) w')
   (fun c=>ee=.panicked (tB c)/\Mem V (stepsB bs (fuel+1)::K) w'))
theorem j3s {α:Type} (r:Ev (List α)):r=r.bind fun vs g=>.ok ([]++vs) g:=by cases r <;> rfl
theorem q1y {ev:Nat->Ex->Env->Ev Val} {env:Env} {x:Ex} {rest:List Ex} {g1 a:Nat} {z:Val} {xs:List Val} (b:ev g1 x env=.ok z a) :
  (xJ ev env (x::rest) g1).bind (fun vs g=>.ok (xs++vs) g)=(xJ ev env rest a).bind fun vs g=>.ok ((xs++[z])++vs) g:=by
 simp only [xJ]
 rw [b]
 simp only [Ev.bind]
 cases xJ ev env rest a <;> simp
theorem q1z {ev:Nat->Ex->Env->Ev Val} {env:Env} {x:Ex} {rest:List Ex} {g1:Nat} {xs:List Val} (a:ev g1 x env=.spent) :
  (xJ ev env (x::rest) g1).bind (fun vs g=>.ok (xs++vs) g)=.spent:=by
 simp only [xJ]
 rw [a];rfl
theorem q5b {ev:Nat->Ex->Env->Ev Val} {env:Env} {g1:Nat} {xs:List Val}:(xJ ev env [] g1).bind (fun vs g=>.ok (xs++vs) g)=.ok xs g1:=by
 simp [xJ,Ev.bind]
theorem q9g {ev:Nat->Ex->Env->Ev Val} {f:Fun} {l:List Val} {g:Nat} (h:vC ev f l g≠.stuck):∃env,cA (f.params.map Param.name) l []=some env:=by
 unfold vC nR at h
 cases hb:cA (f.params.map Param.name) l [] with
 | none=>rw [hb] at h;exact absurd rfl h
 | some env=>exact ⟨env,rfl⟩
theorem z6t:∀{ns:List Bs} {az:List Val} {env env':Env} {i:Nat},cA (ns.drop i) (az.drop i) env=some env'->i < ns.length->i < az.length
 | ns,az,env,env',i,h,b=>by
  by_cases a:i < az.length
  ·exact a
  ·rw [List.drop_eq_getElem_cons b,zE a] at h
   cases h
theorem x3h {l:List Int} {i:Nat} {x:Int} (h:l[i]? = some x):(z3i l)[i * 1]? = some (.int .i64 x):=by
 simp [z3i,h]
theorem yM (l:List Int) (x:Int):gG (l++[x])=IntKind.i64.wrap (gG l+x):=by simp [gG]
theorem xI {α:Type} {l:List α} {i:Nat} {x:α} (h:l[i]? = some x):l.take (i+1)=l.take i++[x]:=by
 rw [List.take_add_one,h];rfl
theorem y5p {α:Type} {l:List α} {i:Nat} (h:¬i < l.length):l.take i=l:=List.take_of_length_le (by omega)
end Go.Sw

namespace Go.Sw
section
variable {ev:Nat->Ex->Env->Ev Val} {C:Ctx} {g:Nat} {e:Ex} {env:Env}
theorem x5k (h:e.kind=1):xE ev C g e env=.ok (z4k e.num) g:=by unfold xE;simp [h]
theorem q7y (h:e.kind=2):xE ev C g e env=.ok ((zL env e.name).getD v0) g:=by unfold xE;simp [h]
theorem x5j (h:e.kind=3):xE ev C g e env=.ok ((zL C.inp e.name).getD v0) g:=by unfold xE;simp [h]
theorem y5n (h:e.kind=4):xE ev C g e env=(xJ ev env e.args g).bind fun l g=>.ok (.mk e.name 0 l) g:=by unfold xE;simp [h]
theorem z3d {f:Fun} (h:e.kind=5) (a:zL C.funs e.name=some f):xE ev C g e env=(xJ ev env e.args g).bind fun l g=>vC ev f l g:=by unfold xE;simp [h,a]
theorem j2j (h:e.kind=5) (a:zL C.funs e.name=none):xE ev C g e env=.stuck:=by unfold xE;simp [h,a]
theorem j9e (h:e.kind=6) (c:xE ev C g e env≠.stuck):2<=e.args.length:=by
 unfold xE at c
 simp only [h] at c
 match d:e.args with
 | []=>rw [d] at c;simp at c
 | [a]=>rw [d] at c;simp at c
 | a::b::l=>simp
theorem dV {a b:Ex} (h:e.kind=6) (c:e.args[0]? = some a) (h1:e.args[1]? = some b):xE ev C g e env=(ev g a env).bind fun x g=>ev g b ((e.name,x)::env):=by
 unfold xE
 simp only [h]
 match d:e.args with
 | []=>rw [d] at c;simp at c
 | [x]=>rw [d] at h1;simp at h1
 | x::y::l=>
  rw [d] at c h1
  simp only [List.getElem?_cons_zero,List.getElem?_cons_succ,Option.some.injEq] at c h1
  subst c;subst h1;simp
def y8d (ev:Nat->Ex->Env->Ev Val) (arms:List Arm) (env:Env) (x:Val) (g:Nat):Ev Val:=match kG arms x.con with
 | none=>.ok v0 g
 | some m=>nR ev m.vars x.args env m.body g
theorem j2i (h:e.kind=7) (b:xE ev C g e env≠.stuck):1<=e.args.length:=by
 unfold xE at b
 simp only [h] at b
 match c:e.args with
 | []=>rw [c] at b;simp at b
 | a::l=>simp
theorem pL {a:Ex} (h:e.kind=7) (b:e.args[0]? = some a):xE ev C g e env=(ev g a env).bind fun x g=>y8d ev e.arms env x g:=by
 unfold xE
 simp only [h]
 match c:e.args with
 | []=>rw [c] at b;simp at b
 | x::l=>
  rw [c] at b
  simp only [List.getElem?_cons_zero,Option.some.injEq] at b
  subst b;simp [y8d];rfl
def opOf (nm:Bs) (l:List Val) (g:Nat):Ev Val:=match l with
 | a::b::_=>.ok (jO nm a.num b.num) g
 | _=>.stuck
theorem q3m (h:e.kind=8):xE ev C g e env=(xJ ev env e.args g).bind fun l g=>opOf e.name l g:=by unfold xE;simp [h];rfl
theorem x4b {nm:Bs} {l:List Val} (h:opOf nm l g≠.stuck):2<=l.length:=by
 match l with
 | []=>exact absurd rfl h
 | [a]=>exact absurd rfl h
 | a::b::l=>simp
theorem opOf_eq {nm:Bs} {l:List Val} {a b:Val} (c:l[0]? = some a) (h1:l[1]? = some b):opOf nm l g=.ok (jO nm a.num b.num) g:=by
 match l with
 | []=>simp at c
 | [x]=>simp at h1
 | x::y::l=>
  simp only [List.getElem?_cons_zero,List.getElem?_cons_succ,Option.some.injEq] at c h1
  subst c;subst h1;rfl
theorem j9f (h1:e.kind≠1) (a:e.kind≠2) (b:e.kind≠3) (c:e.kind≠4) (d:e.kind≠5) (f:e.kind≠6) (h:e.kind≠7) (i:e.kind≠8):xE ev C g e env=.ok v0 g:=by
 unfold xE;simp [*]
theorem y0s {arms:List Arm} {x:Val} (h:kG arms x.con=none):y8d ev arms env x g=.ok v0 g:=by unfold y8d;rw [h]
theorem cJ {arms:List Arm} {x:Val} {m:Arm} (h:kG arms x.con=some m):y8d ev arms env x g=nR ev m.vars x.args env m.body g:=by unfold y8d;rw [h]
theorem y0y {ns:List Bs} {az:List Val} {b:Ex} (h:nR ev ns az env b g≠.stuck):∃en,cA ns az env=some en:=by
 unfold nR at h
 cases hb:cA ns az env with
 | none=>rw [hb] at h;exact absurd rfl h
 | some en=>exact ⟨en,rfl⟩
theorem z2r {ns:List Bs} {az:List Val} {b:Ex} {en:Env} (h:cA ns az env=some en):nR ev ns az env b g=ev g b en:=by unfold nR;rw [h]
theorem y8h {az:List Val} {en:Env}:cA [] az en=some en:=by cases az <;> rfl
end
theorem q2a {C:Ctx} {env:Env} {l:List Ex} {g r:Nat} {vs:List Val} (h:xJ (qM C) env l g=.ok vs r):r<=g:=dP (qV C) h
end Go.Sw

namespace Go.Sw
open Go.Proofs.Tryz
open Go.Proofs
theorem mixed:prog.follows .mixedOrders=true:=by kernel_rfl
theorem fo_27_0:zR prog 27 0 0:=zJ runUnderlying27 rfl sizeOf22 (by decide) rfl
theorem fo_27_1:zR prog 27 1 1:=zJ runUnderlying27 rfl sizeOf23 (by decide) rfl
theorem fo_27_2:zR prog 27 2 2:=zJ runUnderlying27 rfl sizeOf24 (by decide) rfl
theorem fo_27_3:zR prog 27 3 3:=zJ runUnderlying27 rfl sizeOf25 (by decide) rfl
theorem fo_30_0:zR prog 30 0 0:=zJ runUnderlying30 rfl sizeOf28 (by decide) rfl
theorem fo_30_1:zR prog 30 1 1:=zJ runUnderlying30 rfl sizeOf3 (by decide) rfl
theorem fo_42_0:zR prog 42 0 0:=zJ runUnderlying42 rfl sizeOf9 (by decide) rfl
theorem fo_42_1:zR prog 42 1 1:=zJ runUnderlying42 rfl sizeOf3 (by decide) rfl
theorem fo_42_2:zR prog 42 2 2:=zJ runUnderlying42 rfl sizeOf38 (by decide) rfl
theorem fo_62_0:zR prog 62 0 0:=zJ runUnderlying62 rfl sizeOf9 (by decide) rfl
theorem fo_62_1:zR prog 62 1 1:=zJ runUnderlying62 rfl sizeOf42 (by decide) rfl
theorem fo_66_0:zR prog 66 0 0:=zJ runUnderlying66 rfl sizeOf3 (by decide) rfl
theorem fo_66_1:zR prog 66 1 1:=zJ runUnderlying66 rfl sizeOf3 (by decide) rfl
theorem fo_66_2:zR prog 66 2 2:=zJ runUnderlying66 rfl sizeOf9 (by decide) rfl
theorem fo_66_3:zR prog 66 3 3:=zJ runUnderlying66 rfl sizeOf63 (by decide) rfl
theorem fo_66_4:zR prog 66 4 4:=zJ runUnderlying66 rfl sizeOf64 (by decide) rfl
theorem fo_68_0:zR prog 68 0 0:=zJ runUnderlying68 rfl sizeOf9 (by decide) rfl
theorem fo_68_1:zR prog 68 1 1:=zJ runUnderlying68 rfl sizeOf23 (by decide) rfl
theorem fo_68_2:zR prog 68 2 2:=zJ runUnderlying68 rfl sizeOf9 (by decide) rfl
theorem fo_68_3:zR prog 68 3 3:=zJ runUnderlying68 rfl sizeOf66 (by decide) rfl
theorem fo_72_0:zR prog 72 0 0:=zJ runUnderlying72 rfl sizeOf9 (by decide) rfl
theorem fo_72_1:zR prog 72 1 1:=zJ runUnderlying72 rfl sizeOf9 (by decide) rfl
theorem fo_99_0:zR prog 99 0 0:=zJ runUnderlying99 rfl sizeOf89 (by decide) rfl
theorem fo_99_1:zR prog 99 1 1:=zJ runUnderlying99 rfl sizeOf94 (by decide) rfl
theorem fo_99_2:zR prog 99 2 2:=zJ runUnderlying99 rfl sizeOf96 (by decide) rfl
theorem fo_99_3:zR prog 99 3 3:=zJ runUnderlying99 rfl sizeOf3 (by decide) rfl
theorem x1p:zR prog 106 0 0:=zJ runUnderlying106 rfl sizeOf27 (by decide) rfl
theorem x1q:zR prog 106 1 4:=zJ runUnderlying106 rfl sizeOf101 (by decide) rfl
theorem x1r:zR prog 106 2 5:=zJ runUnderlying106 rfl sizeOf102 (by decide) rfl
theorem x1s:zR prog 106 3 6:=zJ runUnderlying106 rfl sizeOf103 (by decide) rfl
theorem x1t:zR prog 106 4 7:=zJ runUnderlying106 rfl sizeOf104 (by decide) rfl
theorem x1u:zR prog 130 0 0:=zJ runUnderlying130 rfl sizeOf127 (by decide) rfl
theorem x1v:zR prog 130 1 1:=zJ runUnderlying130 rfl sizeOf128 (by decide) rfl
theorem x1w:zR prog 133 0 0:=zJ runUnderlying133 rfl sizeOf9 (by decide) rfl
theorem x1x:zR prog 133 1 1:=zJ runUnderlying133 rfl sizeOf131 (by decide) rfl
theorem x1y:zR prog 135 0 0:=zJ runUnderlying135 rfl sizeOf9 (by decide) rfl
theorem x1z:zR prog 135 1 1:=zJ runUnderlying135 rfl sizeOf25 (by decide) rfl
theorem x2a:zR prog 181 0 0:=zJ runUnderlying181 rfl sizeOf9 (by decide) rfl
theorem x2b:zR prog 181 1 1:=zJ runUnderlying181 rfl sizeOf42 (by decide) rfl
theorem x2c:zR prog 181 2 4:=zJ runUnderlying181 rfl sizeOf179 (by decide) rfl
theorem x2d:zR prog 190 0 0:=zJ runUnderlying190 rfl sizeOf9 (by decide) rfl
theorem x2e:zR prog 190 1 1:=zJ runUnderlying190 rfl sizeOf135 (by decide) rfl
theorem x2f:zR prog 195 0 0:=zJ runUnderlying195 rfl sizeOf9 (by decide) rfl
theorem x2g:zR prog 195 1 1:=zJ runUnderlying195 rfl sizeOf25 (by decide) rfl
theorem x2h:zR prog 195 2 2:=zJ runUnderlying195 rfl sizeOf66 (by decide) rfl
theorem x2k:zR prog 270 1 1:=zJ runUnderlying270 rfl sizeOf31 (by decide) rfl
theorem x2l:zR prog 274 0 0:=zJ runUnderlying274 rfl sizeOf3 (by decide) rfl
theorem x2m:zR prog 274 2 2:=zJ runUnderlying274 rfl sizeOf9 (by decide) rfl
theorem x2n:zR prog 297 0 0:=zJ runUnderlying297 rfl sizeOf9 (by decide) rfl
theorem x2o:zR prog 297 1 1:=zJ runUnderlying297 rfl sizeOf3 (by decide) rfl
theorem x2p:zR prog 301 0 0:=zJ runUnderlying301 rfl sizeOf297 (by decide) rfl
theorem x2q:zR prog 301 1 2:=zJ runUnderlying301 rfl sizeOf298 (by decide) rfl
theorem x2r:zR prog 301 2 3:=zJ runUnderlying301 rfl sizeOf299 (by decide) rfl
set_option maxRecDepth 20000 in
theorem rt_22:RowT prog 22 133 2 40:=⟨underlying22,⟨_,_,Tryz.type133,rfl,rfl,rfl,rfl⟩,by decide,by decide⟩
set_option maxRecDepth 20000 in
theorem wQ:RowT prog 25 9 1 16:=⟨underlying25,⟨_,_,Tryz.type9,rfl,rfl,rfl,rfl⟩,by decide,by decide⟩
set_option maxRecDepth 20000 in
theorem rt_28:RowT prog 28 62 4 64:=⟨underlying28,⟨_,_,Tryz.type62,rfl,rfl,rfl,rfl⟩,by decide,by decide⟩
set_option maxRecDepth 20000 in
theorem wR:RowT prog 38 42 3 48:=⟨underlying38,⟨_,_,Tryz.type42,rfl,rfl,rfl,rfl⟩,by decide,by decide⟩
set_option maxRecDepth 20000 in
theorem pT:RowT prog 93 3 1 8:=⟨underlying93,⟨_,_,Tryz.type3,rfl,rfl,rfl,rfl⟩,by decide,by decide⟩
set_option maxRecDepth 20000 in
theorem rt_128:RowT prog 128 5 1 1:=⟨underlying128,⟨_,_,Tryz.type5,rfl,rfl,rfl,rfl⟩,by decide,by decide⟩
set_option maxRecDepth 20000 in
theorem rt_299:RowT prog 299 314 2 16:=⟨underlying299,⟨_,_,Tryz.type314,rfl,rfl,rfl,rfl⟩,by decide,by decide⟩
end Go.Sw
