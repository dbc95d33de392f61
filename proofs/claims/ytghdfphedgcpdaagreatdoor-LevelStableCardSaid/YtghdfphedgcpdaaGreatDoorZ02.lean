import Derived.Test.YtghdfphedgcpdaaGreatDoorProg
import Derived.RangeFuncRecord
import Derived.RangeFuncSeq
import Derived.RangeFuncLeaves
import Derived.RangeFuncCalls
import Derived.OwnWalkIn
import Derived.Recover
import Derived.Test.YtghdfphedgcpdaaGreatDoorZ00
import Derived.Test.YtghdfphedgcpdaaGreatDoorZ01
set_option linter.unusedVariables false
set_option linter.unusedSimpArgs false
namespace Go.Sw
structure Sound (T:Table) (C:Ctx):Prop where
 funs:C.funs=T.funs
 fOk:∀n f,zH T.funs n=some f→pK T f=true∧f.result≠sNo
 dNo:zH T.datas sNo=none
 dInt:zH T.datas qC=none
 cD:∀con m,zH T.cons con=some m→con≠sNo∧m.con.name=con∧m.data≠qC∧∃d,zH T.datas m.data=some d∧m.con∈d.cons
 dC:∀t d x,zH T.datas t=some d→x∈d.cons→zH T.cons x.name=some ⟨t,x⟩
 cF:zH T.cons z4z=some ⟨dE,⟨z4z,[]⟩⟩
 cT:zH T.cons y6d=some ⟨dE,⟨y6d,[]⟩⟩
structure Closed (T:Table) (C:Ctx) (P:Ex→Prop):Prop where
 args:∀{e x},P e→x∈e.args→P x
 arms:∀{e a},P e→a∈e.arms→P a.body
 inp:∀{e t},P e→e.kind=3→zH T.inputs e.name=some t→∃v,zH C.inp e.name=some v∧nP T v t=true
 call:∀{e f},P e→e.kind=5→zH T.funs e.name=some f→P f.body
def EnvOk (T:Table) (s:Scope) (env:Env):Prop:=∀n t,zH s n=some t→∃v,zH env n=some v∧nP T v t=true
def Good (T:Table) (r:Ev Val) (t:Bs):Prop:=r≠.stuck∧∀v g,r=.ok v g→nP T v t=true
def oG (T:Table) (vs:List Val) (ts:List Bs):Prop:=All2 (fun v t=>nP T v t=true) vs ts
theorem EnvOk.put {T:Table} {s:Scope} {env:Env} {n t:Bs} {v:Val} (h:EnvOk T s env) (hv:nP T v t=true):EnvOk T (qM s n t) ((n,v)::env):=fun m u hm=>by
 rw [jE] at hm
 simp only [zH]
 split at hm
 ·simp only [Option.some.injEq] at hm;subst hm;rename_i hmn;rw [if_pos hmn];exact ⟨v,rfl,hv⟩
 ·rename_i hmn;rw [if_neg hmn];exact h m u hm
theorem z8m {T:Table}:∀{ns ts:List Bs} {vs:List Val} {s:Scope} {env:Env},ns.length=ts.length→oG T vs ts→EnvOk T s env→∃env',kL ns vs env=some env'∧EnvOk T (putAll s ns ts) env'
 | [],[],[],s,env,_,_,he=>⟨env,rfl,by rw [xV];exact he⟩
 | n::ns,t::ts,v::vs,s,env,hl,hv,he=>by
  obtain ⟨env',h1,h2⟩:=z8m (ns:=ns) (ts:=ts) (vs:=vs) (by simpa using hl) hv.2 (he.put (n:=n) hv.1)
  exact ⟨env',h1,h2⟩
 | [],_::_,_,_,_,hl,_,_=>by simp at hl
 | _::_,[],_,_,_,hl,_,_=>by simp at hl
 | [],[],_::_,_,_,_,hv,_=>hv.elim
 | _::_,_::_,[],_,_,_,hv,_=>hv.elim
theorem z9q {T:Table}:∀{vs:List Val} {ts:List Bs},vs.length=ts.length→(hasL T vs ts=true↔oG T vs ts)
 | [],[],_=>by simp [hasL,oG,All2]
 | v::vs,t::ts,hl=>by
  simp only [hasL,oG,All2,List.headD_cons,List.tail_cons,Bool.and_eq_true]
  rw [z9q (by simpa using hl)];rfl
 | [],_::_,hl=>by simp at hl
 | _::_,[],hl=>by simp at hl
theorem has_con {T:Table} {v:Val} {t:Bs} (h:nP T v t=true) (ht:t≠qC):v.con≠sNo∧∃m,zH T.cons v.con=some m∧m.data=t∧oG T v.args m.con.fields:=by
 cases v with
 | mk con num args =>
  simp only [nP] at h
  split at h
  ·simp only [Bool.and_eq_true,decide_eq_true_eq] at h;exact absurd h.1.2 ht
  ·rename_i hc
   refine ⟨fun e=>hc (.inl e),?_⟩
   split at h
   ·cases h
   ·rename_i m hm
    simp only [Bool.and_eq_true,decide_eq_true_eq] at h
    exact ⟨m,hm,h.1.1.1,(z9q h.1.2.symm).1 h.2⟩
theorem q4u {T:Table} {C:Ctx} (hS:Sound T C) {con:Bs} {m:Maker} {vs:List Val} (hm:zH T.cons con=some m) (hv:oG T vs m.con.fields):nP T (.mk con 0 vs) m.data=true:=by
 obtain ⟨h1,h2,h3,_⟩:=hS.cD con m hm
 simp only [nP]
 rw [if_neg (fun e=>by rcases e with e | e;exact h1 e;exact h3 e)]
 simp only [hm]
 have:=All2.length hv
 simp only [Bool.and_eq_true,decide_eq_true_eq]
 exact ⟨⟨⟨trivial,trivial⟩,this.symm⟩,(z9q this).2 hv⟩
theorem uL {T:Table} (n:Int):nP T (z1h n) qC=true:=by
 simp [z1h,nP]
theorem sInt_ne:qC≠sNo:=by decide
theorem q1f {T:Table} {C:Ctx} (hS:Sound T C) (b:Bool):nP T (gA b) dE=true:=by
 cases b with
 | true=>exact q4u hS (con:=y6d) hS.cT (vs:=[]) trivial
 | false=>exact q4u hS (con:=z4z) hS.cF (vs:=[]) trivial
theorem uI {T:Table} {C:Ctx} {P:Ex→Prop} {g:Nat} {s:Scope} {env:Env}
  (ih:∀g1,g1≤g→∀e t,P e→(zS e).Nodup→Fresh s (zS e)→Ty T e s t→Good T (jJ C g1 e env) t) :
  ∀{xs:List Ex} {ts:List Bs} {g1:Nat},(∀x∈xs,P x)→g1≤g→(bindPs xs).Nodup→Fresh s (bindPs xs)→All2 (fun x t=>Ty T x s t) xs ts→xC (jJ C) env xs g1≠.stuck∧∀vs g2,xC (jJ C) env xs g1=.ok vs g2→oG T vs ts∧g2≤g1
 | [],[],g1,_,_,_,_,_=>⟨fun h=>(by cases h),fun vs g2 h=>by simp only [xC,Ev.ok.injEq] at h;obtain ⟨rfl,rfl⟩:=h;exact ⟨trivial,Nat.le_refl _⟩⟩
 | x::xs,t::ts,g1,hp,hg,hn,hf,ht=>by
  have hn':=yV (show (zS x++bindPs xs).Nodup from hn)
  obtain ⟨k1,k2⟩:=ih g1 hg x t (hp x List.mem_cons_self) hn'.1 (hf.sub fun n h=>List.mem_append.2 (.inl h)) ht.1
  simp only [xC]
  cases hr:jJ C g1 x env with
  | stuck=>exact absurd hr k1
  | spent=>exact ⟨fun h=>(by cases h),fun vs g2 h=>by cases h⟩
  | ok v g3 =>
   have hlt:=jB C _ _ _ _ _ hr
   obtain ⟨k3,k4⟩:=uI ih (xs:=xs) (ts:=ts) (g1:=g3) (fun y hy=>hp y (List.mem_cons_of_mem _ hy)) (by omega) hn'.2.1 (hf.sub fun n h=>List.mem_append.2 (.inr h)) ht.2
   simp only [Ev.bind]
   cases hr2:xC (jJ C) env xs g3 with
   | stuck=>exact absurd hr2 k3
   | spent=>exact ⟨fun h=>(by cases h),fun vs g2 h=>by cases h⟩
   | ok l g4 =>
    refine ⟨fun h=>(by cases h),fun vs g2 h =>?_⟩
    simp only [Ev.ok.injEq] at h
    obtain ⟨rfl,rfl⟩:=h
    have:=k4 _ _ hr2
    exact ⟨⟨k2 _ _ hr,this.1⟩,by omega⟩
 | [],_::_,_,_,_,_,_,ht=>ht.elim
 | _::_,[],_,_,_,_,_,ht=>ht.elim
theorem uR (ps:List Param):gI ps=putAll [] (ps.map Param.name) (ps.map Param.type):=by
 have:∀(ps:List Param) (s:Scope),ps.foldl (fun s p=>qM s p.name p.type) s=putAll s (ps.map Param.name) (ps.map Param.type):=by
  intro ps
  induction ps with
  | nil=>intro s;simp [xV]
  | cons p ps ih=>intro s;simp only [List.foldl_cons,List.map_cons,dV,ih]
 exact this ps []
theorem oH {nm:Bs→Bool}:∀{l ds:List Bs},gD nm ds l=true→l.Nodup∧(∀n∈l,n∉ds)∧∀n∈l,nm n=true
 | [],_,_=>by simp
 | s::l,ds,h=>by
  simp only [gD,Bool.and_eq_true,Bool.not_eq_true'] at h
  obtain ⟨⟨h1,h2⟩,h3⟩:=h
  obtain ⟨k1,k2,k3⟩:=oH h3
  have hs:s∉ds:=fun hm=>by
   have:has ds s=true:=by simp only [has,List.any_eq_true,decide_eq_true_eq];exact ⟨s,hm,rfl⟩
   rw [this] at h2;cases h2
  refine ⟨List.nodup_cons.2 ⟨fun hm=>k2 s hm (by simp),k1⟩,fun n hn =>?_,fun n hn =>?_⟩
  ·rcases List.mem_cons.1 hn with rfl | hn
   ·exact hs
   ·exact fun hm=>k2 n hn (List.mem_append.2 (.inl hm))
  ·rcases List.mem_cons.1 hn with rfl | hn
   ·exact h1
   ·exact k3 n hn
structure FunGood (T:Table) (f:Fun):Prop where
 nodup:(f.params.map Param.name++zS f.body).Nodup
 ty:Ty T f.body (gI f.params) f.result
theorem j7j {T:Table} {C:Ctx} (hS:Sound T C) {n:Bs} {f:Fun} (h:zH T.funs n=some f):FunGood T f:=by
 obtain ⟨h1,h2⟩:=hS.fOk n f h
 simp only [pK,Bool.and_eq_true,decide_eq_true_eq] at h1
 exact ⟨(oH h1.1.2).1,h1.2,h1.2▸h2⟩
theorem y4b {T:Table} {C:Ctx} {P:Ex→Prop} (hS:Sound T C) {g:Nat} {n:Bs} {f:Fun} {vs:List Val} (h:zH T.funs n=some f) (hb:P f.body) (hv:oG T vs (f.params.map Param.type))
  (ih:∀e s env t,P e→(zS e).Nodup→Fresh s (zS e)→Ty T e s t→EnvOk T s env→Good T (jJ C g e env) t):Good T (pI (jJ C) f vs g) f.result:=by
 have hf:=j7j hS h
 have hn:=yV hf.nodup
 obtain ⟨env',h1,h2⟩:=z8m (T:=T) (ns:=f.params.map Param.name) (ts:=f.params.map Param.type) (vs:=vs) (s:=[]) (env:=[]) (by simp) hv (fun n t h=>by cases h)
 unfold pI mJ
 rw [h1]
 rw [← uR] at h2
 refine ih _ _ _ _ hb hn.2.1 (fun m hm =>?_) hf.ty h2
 rw [uR,mG (fun hp=>hn.2.2 m hp hm)];rfl
theorem z9j {T:Table} {s:Scope} {t:Bs}:∀{az:List Arm} {cs:List Con} {c:Con},All2 (fun a c=>q8b T s t a c) az cs→c∈cs→(∀d∈cs,d.name=c.name→d=c)→∃a,xQ az c.name=some a∧a∈az∧q8b T s t a c
 | [],[],_,_,h,_=>by cases h
 | a::az,d::cs,c,h,hc,hu=>by
  simp only [xQ]
  by_cases he:a.con=c.name
  ·rw [if_pos he]
   have:d=c:=hu d List.mem_cons_self (by rw [← h.1.1];exact he)
   subst this
   exact ⟨a,rfl,List.mem_cons_self,h.1⟩
  ·rw [if_neg he]
   rcases List.mem_cons.1 hc with rfl | hc
   ·exact absurd h.1.1 he
   ·obtain ⟨b,k1,k2,k3⟩:=z9j h.2 hc (fun e he=>hu e (List.mem_cons_of_mem _ he))
    exact ⟨b,k1,List.mem_cons_of_mem _ k2,k3⟩
 | [],_::_,_,h,_,_=>h.elim
 | _::_,[],_,h,_,_=>h.elim
theorem q5k {az:List Arm} {a:Arm} (h:a∈az):∃l r,bindPa az=l++(a.vars++zS a.body)++r:=by
 induction az with
 | nil=>cases h
 | cons b az ih =>
  rw [jN]
  rcases List.mem_cons.1 h with rfl | h
  ·exact ⟨[],bindPa az,by simp⟩
  ·obtain ⟨l,r,e⟩:=ih h
   exact ⟨b.vars++zS b.body++l,r,by rw [e];simp⟩
theorem sound {T:Table} {C:Ctx} {P:Ex→Prop} (hS:Sound T C) (hP:Closed T C P):∀(g:Nat) (e:Ex) (s:Scope) (env:Env) (t:Bs),P e→(zS e).Nodup→Fresh s (zS e)→Ty T e s t→EnvOk T s env→Good T (jJ C g e env) t:=by
 intro g
 induction g using Nat.strongRecOn with
 | _ g ih =>
 cases g with
 | zero=>exact fun e s env t _ _ _ _ _=>⟨fun h=>(by rw [z0j] at h;cases h),fun v g h=>by rw [z0j] at h;cases h⟩
 | succ g =>
 intro e s env t hp hn hf ht he
 obtain ⟨ht,hne⟩:=ht
 have hkp:∀x,z0b T x:=fun x=>tJ T hS.dNo _ x (Nat.lt_succ_self _)
 rw [mT] at hn hf
 have hn1:=yV hn
 have hn2:=yV hn1.1
 have hfa:Fresh s (bindPs e.args):=hf.sub fun m hm=>List.mem_append.2 (.inl (List.mem_append.2 (.inr hm)))
 have hfb:Fresh s (bindPa e.arms):=hf.sub fun m hm=>List.mem_append.2 (.inr hm)
 have ihg:∀g1,g1≤g→∀e t,P e→(zS e).Nodup→Fresh s (zS e)→Ty T e s t→Good T (jJ C g1 e env) t:=fun g1 hg e t p a b c=>ih g1 (by omega) e s env t p a b c he
 rw [yR]
 have okG:∀(v:Val) (g1:Nat),nP T v t=true→Good T (.ok v g1) t:=fun v g1 h=>⟨fun h=>(by cases h),fun v' g' h'=>by simp only [Ev.ok.injEq] at h';rw [← h'.1];exact h⟩
 have spG:Good T .spent t:=⟨fun h=>(by cases h),fun v' g' h'=>by cases h'⟩
 unfold xE
 by_cases h1:e.kind=1
 ·rw [if_pos h1]
  rw [sI T e s h1] at ht
  simp only [dS] at ht
  split at ht
  ·subst ht;exact okG _ _ (uL _)
  ·exact absurd ht.symm hne
 rw [if_neg h1]
 by_cases h2:e.kind=2
 ·rw [if_pos h2]
  rw [sJ T e s h2] at ht
  simp only [pH] at ht
  split at ht
  ·cases hl:zH s e.name with
   | none=>rw [hl] at ht;exact absurd ht.symm hne
   | some u =>
    rw [hl] at ht
    simp only [Option.getD_some] at ht;subst ht
    obtain ⟨v,k1,k2⟩:=he _ _ hl
    rw [k1];exact okG _ _ k2
  ·exact absurd ht.symm hne
 rw [if_neg h2]
 by_cases h3:e.kind=3
 ·rw [if_pos h3]
  rw [sG T e s h3] at ht
  simp only [oN] at ht
  split at ht
  ·cases hl:zH T.inputs e.name with
   | none=>rw [hl] at ht;exact absurd ht.symm hne
   | some u =>
    rw [hl] at ht
    simp only [Option.getD_some] at ht;subst ht
    obtain ⟨v,k1,k2⟩:=hP.inp hp h3 hl
    rw [k1];exact okG _ _ k2
  ·exact absurd ht.symm hne
 rw [if_neg h3]
 by_cases h4:e.kind=4
 ·rw [if_pos h4]
  rw [sF T e s h4] at ht
  unfold sY at ht
  split at ht
  ·exact absurd ht.symm hne
  ·rename_i m hm
   split at ht
   ·split at ht
    ·rename_i ha
     subst ht
     obtain ⟨k1,k2⟩:=uI (g:=g) ihg (fun x hx=>hP.args hp hx) (Nat.le_refl g) hn2.2.1 hfa (cJ (fun x _=>hkp x) hn2.2.1 hfa ha).2
     cases hr:xC (jJ C) env e.args g with
     | stuck=>exact absurd hr k1
     | spent=>exact spG
     | ok vs g2=>exact okG _ _ (q4u hS hm (k2 _ _ hr).1)
    ·exact absurd ht.symm hne
   ·exact absurd ht.symm hne
 rw [if_neg h4]
 by_cases h5:e.kind=5
 ·rw [if_pos h5]
  rw [dX T e s h5] at ht
  unfold aA at ht
  split at ht
  ·exact absurd ht.symm hne
  ·rename_i f hm
   split at ht
   ·split at ht
    ·rename_i ha
     subst ht
     obtain ⟨k1,k2⟩:=uI (g:=g) ihg (fun x hx=>hP.args hp hx) (Nat.le_refl g) hn2.2.1 hfa (cJ (fun x _=>hkp x) hn2.2.1 hfa ha).2
     rw [hS.funs,hm]
     simp only
     cases hr:xC (jJ C) env e.args g with
     | stuck=>exact absurd hr k1
     | spent=>exact spG
     | ok vs g2 =>
      simp only [Ev.bind]
      obtain ⟨k3,k4⟩:=k2 _ _ hr
      exact y4b hS hm (hP.call hp h5 hm) k3 (fun e s env t=>ih g2 (by omega) e s env t)
    ·exact absurd ht.symm hne
   ·exact absurd ht.symm hne
 rw [if_neg h5]
 by_cases h6:e.kind=6
 ·rw [if_pos h6]
  rw [sH T e s h6] at ht
  unfold z0p at ht
  split at ht
  ·rename_i hb
   have hl:=vV (n:=2) hb
   obtain ⟨x,y,hxy⟩:∃x y,e.args=[x,y]:=by
    cases ha:e.args with
    | nil=>rw [ha] at hl;simp at hl
    | cons a l =>
     cases l with
     | nil=>rw [ha] at hl;simp at hl
     | cons b l =>
      rw [ha] at hl
      simp only [List.length_cons] at hl
      have:l=[]:=List.eq_nil_of_length_eq_zero (by omega)
      subst this;exact ⟨a,b,rfl⟩
   rw [hxy] at ht ⊢
   simp only
   have hx:[x,y][0]? = some x:=rfl
   have hy:[x,y][1]? = some y:=rfl
   by_cases h0:(zG T x s).1=sNo
   ·rw [z7z hx h0] at ht;exact absurd ht.symm hne
   ·rw [z2i hx hy h0] at ht
    simp only at ht
    simp only [if_pos h6,hxy,bindPs,List.append_nil] at hn hf
    have hm1:=yV hn
    have hm2:=yV hm1.1
    have hm3:=yV hm2.2.1
    have hfx:Fresh s (zS x):=hf.sub fun m hm=>by simp [hm]
    have e1:=hkp x s hm3.1 hfx h0
    obtain ⟨k1,k2⟩:=ihg g (Nat.le_refl g) x _ (hP.args hp (by rw [hxy];simp)) hm3.1 hfx ⟨rfl,h0⟩
    cases hr:jJ C g x env with
    | stuck=>exact absurd hr k1
    | spent=>exact spG
    | ok v g2 =>
     have:=jB C _ _ _ _ _ hr
     simp only [Ev.bind]
     have hkey:Fresh (qM s e.name (zG T x s).1) (zS y):=fun m hm=>by
      rw [jE,if_neg]
      ·exact hf m (by simp [hm])
      ·rintro rfl
       exact hm2.2.2 e.name (by simp) (by simp [hm])
     rw [e1] at ht
     exact ih g2 (by omega) y (qM s e.name (zG T x s).1) _ t (hP.args hp (by rw [hxy];simp)) hm3.2.1 hkey ⟨ht,hne⟩ (he.put (k2 _ _ hr))
  ·exact absurd ht.symm hne
 rw [if_neg h6]
 by_cases h7:e.kind=7
 ·rw [if_pos h7]
  rw [dY T e s h7] at ht
  unfold jY at ht
  split at ht
  ·rename_i hb
   have hl:=vV (n:=1) hb
   obtain ⟨x,hxy⟩:∃x,e.args=[x]:=by
    cases ha:e.args with
    | nil=>rw [ha] at hl;simp at hl
    | cons a l =>
     rw [ha] at hl
     simp only [List.length_cons] at hl
     have:l=[]:=List.eq_nil_of_length_eq_zero (by omega)
     subst this;exact ⟨a,rfl⟩
   rw [hxy] at ht ⊢
   simp only [firstP] at ht ⊢
   split at ht
   ·exact absurd ht.symm hne
   ·rename_i d hd
    split at ht
    ·rename_i hle
     have h0:(zG T x s).1≠sNo:=fun e0=>by rw [e0,hS.dNo] at hd;cases hd
     have hi0:(zG T x s).1≠qC:=fun e0=>by rw [e0,hS.dInt] at hd;cases hd
     rw [hxy] at hn2 hfa
     simp only [bindPs,List.append_nil] at hn2 hfa
     have e1:=hkp x s hn2.2.1 hfa h0
     rw [e1] at ht
     obtain ⟨k1,k2⟩:=ihg g (Nat.le_refl g) x _ (hP.args hp (by rw [hxy];simp)) hn2.2.1 hfa ⟨rfl,h0⟩
     cases hr:jJ C g x env with
     | stuck=>exact absurd hr k1
     | spent=>exact spG
     | ok v g2 =>
      have:=jB C _ _ _ _ _ hr
      simp only [Ev.bind]
      obtain ⟨j1,m,j2,j3,j4⟩:=has_con (k2 _ _ hr) hi0
      obtain ⟨_,j5,_,d',j6,j7⟩:=hS.cD _ _ j2
      rw [j3,hd] at j6
      simp only [Option.some.injEq] at j6;subst j6
      have hsp:=sC hne (fun a _=>hkp a.body) hle hn1.2.1 hfb ht
      obtain ⟨a,q1,q2,q3,q4,q5⟩:=z9j (c:=m.con) hsp.2.1 j7 (fun d2 hd2 hnm=>by
       have r1:=hS.dC _ _ _ hd hd2
       have r2:=hS.dC _ _ _ hd j7
       rw [hnm,r2] at r1
       simp only [Option.some.injEq,Maker.mk.injEq,true_and] at r1
       exact r1.symm)
      rw [j5] at q1
      rw [q1]
      simp only
      obtain ⟨l,r,hlr⟩:=q5k q2
      have hnn:(a.vars++zS a.body).Nodup:=by
       have:=hn1.2.1
       rw [hlr] at this
       exact (yV (yV this).1).2.1
      have hff:Fresh s (a.vars++zS a.body):=hfb.sub fun m hm=>by rw [hlr];simp at hm ⊢;rcases hm with hm | hm <;> simp [hm]
      have hnn':=yV hnn
      obtain ⟨env',w1,w2⟩:=z8m (ns:=a.vars) q4 j4 he
      unfold mJ
      rw [w1]
      exact ih g2 (by omega) a.body _ env' t (hP.arms hp q2) hnn'.2.1 (fun m hm=>by
       rw [mG (fun hp=>hnn'.2.2 m hp hm)];exact hff m (List.mem_append.2 (.inr hm))) q5 w2
    ·exact absurd ht.symm hne
  ·exact absurd ht.symm hne
 rw [if_neg h7]
 by_cases h8:e.kind=8
 ·rw [if_pos h8]
  rw [uV T e s h8] at ht
  unfold nC at ht
  split at ht
  ·split at ht
   ·rename_i ha
    obtain ⟨k1,k2⟩:=uI (g:=g) ihg (fun x hx=>hP.args hp hx) (Nat.le_refl g) hn2.2.1 hfa (cJ (fun x _=>hkp x) hn2.2.1 hfa ha).2
    cases hr:xC (jJ C) env e.args g with
    | stuck=>exact absurd hr k1
    | spent=>exact spG
    | ok vs g2 =>
     simp only [Ev.bind]
     obtain ⟨k3,k4⟩:=k2 _ _ hr
     match vs,k3 with
     | [a,b],k3 =>
      simp only at ht ⊢
      rw [if_neg (fun h=>hne (ht.symm.trans h))]
      refine okG _ _ ?_
      unfold opT at ht
      unfold jK
      split at ht
      ·rename_i ho
       subst ht
       split
       ·exact uL _
       split
       ·exact uL _
       split
       ·exact uL _
       split
       ·rename_i h;rw [h] at ho;simp at ho
       split
       ·rename_i h;rw [h] at ho;simp at ho
       split
       ·exact uL 0
       split <;> exact uL _
      ·split at ht
       ·rename_i hno ho
        subst ht
        split
        ·rename_i h;exact absurd (.inl h) hno
        split
        ·rename_i h;exact absurd (.inr (.inl h)) hno
        split
        ·rename_i h;exact absurd (.inr (.inr (.inl h))) hno
        split
        ·exact q1f hS _
        split
        ·exact q1f hS _
        ·rename_i u1 u2;rcases ho with h | h
         ·exact absurd h u1
         ·exact absurd h u2
       ·exact absurd ht.symm hne
     | [],k3=>exact k3.elim
     | [a],k3=>exact k3.2.elim
     | a::b::c::l,k3=>exact k3.2.2.elim
   ·exact absurd ht.symm hne
  ·exact absurd ht.symm hne
 rw [if_neg h8]
 rw [dZ T e s h1 h2 h3 h4 h5 h6 h7 h8] at ht
 exact absurd ht.symm hne
end Go.Sw

namespace Go.Sw
section
variable {α:Type}
def pP {β:Type} (key:β→Bs) (val:β→α) (l:List β):List (Bs×α):=l.map fun x=>(key x,val x)
theorem z1w {β:Type} {key:β→Bs} {val:β→α}:∀{l:List β} {x:β},(l.map key).Nodup→x∈l→zH (pP key val l) (key x)=some (val x)
 | y::l,x,hn,h=>by
  simp only [List.map_cons,List.nodup_cons] at hn
  simp only [pP,List.map_cons,zH]
  rcases List.mem_cons.1 h with rfl | h
  ·rw [if_pos rfl]
  ·rw [if_neg (fun e=>hn.1 (by rw [← e];exact List.mem_map_of_mem h))]
   exact z1w hn.2 h
theorem jI {β:Type} {key:β→Bs} {val:β→α}:∀{l:List β} {n:Bs} {v:α},zH (pP key val l) n=some v→∃x∈l,key x=n∧val x=v
 | [],_,_,h=>by simp [pP,zH] at h
 | y::l,n,v,h=>by
  simp only [pP,List.map_cons,zH] at h
  split at h
  ·simp only [Option.some.injEq] at h;rename_i e;exact ⟨y,List.mem_cons_self,e.symm,h⟩
  ·obtain ⟨x,h1,h2⟩:=jI h;exact ⟨x,List.mem_cons_of_mem _ h1,h2⟩
theorem jW {s r:List (Bs×α)} {n:Bs} (h:zH (s++r) n=none):zH s n=none∧zH r n=none:=by
 induction s with
 | nil=>exact ⟨rfl,h⟩
 | cons p s ih =>
  obtain ⟨k,x⟩:=p
  simp only [List.cons_append,zH] at h ⊢
  split at h
  ·cases h
  ·rename_i hne;rw [if_neg hne];exact ih h
theorem dQ {k n:Bs} {x:α}:zH [(k,x)] n=none↔n≠k:=by
 simp [zH]
end
theorem uN {α:Type} {m:List (Bs×α)} {s:Bs} {x:α} (h:zH m s=none):qX m s x=m++[(s,x)]:=by
 unfold qX;rw [h];exact oQ h
theorem y2l (dn:Bs):∀{l:List Con} {ok:Bool} {m:List (Bs×Maker)},(xP dn ok m l).1=true →
  ok=true∧(xP dn ok m l).2=m++pP Con.name (fun x=>⟨dn,x⟩) l∧(∀x∈l,qG x.name=true∧zH m x.name=none)∧(l.map Con.name).Nodup
 | [],ok,m,h=>⟨h,by simp [xP,pP],by simp,by simp⟩
 | x::l,ok,m,h=>by
  simp only [xP] at h ⊢
  split at h
  ·rename_i hc
   rw [if_pos hc]
   simp only [Bool.and_eq_true] at hc
   obtain ⟨h1,h2,h3,h4⟩:=y2l dn h
   have hx:zH m x.name=none:=by simpa using h1
   rw [uN hx] at h2 h3 ⊢
   refine ⟨hc.1,by rw [h2];simp [pP],fun y hy =>?_,?_⟩
   ·rcases List.mem_cons.1 hy with rfl | hy
    ·exact ⟨hc.2,hx⟩
    ·exact ⟨(h3 y hy).1,(jW (h3 y hy).2).1⟩
   ·simp only [List.map_cons,List.nodup_cons]
    refine ⟨fun hm =>?_,h4⟩
    obtain ⟨y,hy,e⟩:=List.mem_map.1 hm
    have:=(jW (h3 y hy).2).2
    rw [dQ] at this
    exact this e
  ·have:=(y2l dn h).1;cases this
def z1r (l:List Data):List (Bs×Maker):=(l.map fun d=>pP Con.name (fun x=>(⟨d.name,x⟩:Maker)) d.cons).flatten
theorem q3d:∀{l:List Data} {ok:Bool} {ds:List (Bs×Data)} {m:List (Bs×Maker)},(z1g ok ds m l).1=true →
  ok=true∧(z1g ok ds m l).2.1=ds++pP Data.name id l∧(z1g ok ds m l).2.2=m++z1r l ∧
  (∀d∈l,qG d.name=true∧d.name≠qC∧zH ds d.name=none∧(d.cons.map Con.name).Nodup∧∀x∈d.cons,qG x.name=true∧zH m x.name=none)∧(l.map Data.name).Nodup ∧
  ((l.map fun d=>d.cons.map Con.name).flatten).Nodup
 | [],ok,ds,m,h=>⟨h,by simp [z1g,pP],by simp [z1g,z1r],by simp,by simp,by simp⟩
 | d::l,ok,ds,m,h=>by
  simp only [z1g] at h ⊢
  obtain ⟨h1,h2,h3,h4,h5,h6⟩:=q3d h
  obtain ⟨g1,g2,g3,g4⟩:=y2l d.name h1
  simp only [aF,Bool.and_eq_true,decide_eq_true_eq,Bool.not_eq_true',decide_eq_false_iff_not,Option.isNone_iff_eq_none] at g1
  obtain ⟨⟨⟨⟨k1,k2⟩,k3⟩,k4⟩,k5⟩:=g1
  have hp:pO ok ds d=ds++[(d.name,d)]:=by
   unfold pO
   rw [if_pos (by simp [k1,k2,k3])]
   exact uN k4
  rw [hp,g2] at h2 h3 h4 ⊢
  refine ⟨k1,by rw [h2];simp [pP],by rw [h3];simp [z1r],fun e he =>?_,?_,?_⟩
  ·rcases List.mem_cons.1 he with rfl | he
   ·exact ⟨k2,k3,k4,g4,fun x hx=>g3 x hx⟩
   ·obtain ⟨j1,j2,j3,j4,j5⟩:=h4 e he
    exact ⟨j1,j2,(jW j3).1,j4,fun x hx=>⟨(j5 x hx).1,(jW (j5 x hx).2).1⟩⟩
  ·simp only [List.map_cons,List.nodup_cons]
   refine ⟨fun hm =>?_,h5⟩
   obtain ⟨e,he,e1⟩:=List.mem_map.1 hm
   have:=(jW (h4 e he).2.2.1).2
   rw [dQ] at this
   exact this e1
  ·simp only [List.map_cons,List.flatten_cons]
   rw [List.nodup_append]
   refine ⟨g4,h6,fun n hn m' hm' e =>?_⟩
   subst e
   obtain ⟨x,hx,rfl⟩:=List.mem_map.1 hn
   obtain ⟨ns,hns,hx2⟩:=List.mem_flatten.1 hm'
   obtain ⟨e,he,rfl⟩:=List.mem_map.1 hns
   obtain ⟨y,hy,hxy⟩:=List.mem_map.1 hx2
   have:=(jW ((h4 e he).2.2.2.2 y hy).2).2
   rw [hxy] at this
   have h7:zH (pP Con.name (fun x=>(⟨d.name,x⟩:Maker)) d.cons) x.name=some ⟨d.name,x⟩:=z1w (val:=fun x=>(⟨d.name,x⟩:Maker)) g4 hx
   rw [h7] at this;cases this
theorem z3f:∀{l:List Fun} {ok:Bool} {m:List (Bs×Fun)},(tX ok m l).1=true →
  ok=true∧(tX ok m l).2=m++pP Fun.name id l∧(∀f∈l,yY f.name=true∧zH m f.name=none)∧(l.map Fun.name).Nodup
 | [],ok,m,h=>⟨h,by simp [tX,pP],by simp,by simp⟩
 | x::l,ok,m,h=>by
  simp only [tX] at h ⊢
  split at h
  ·rename_i hc
   rw [if_pos hc]
   simp only [Bool.and_eq_true] at hc
   obtain ⟨h1,h2,h3,h4⟩:=z3f h
   have hx:zH m x.name=none:=by simpa using h1
   rw [uN hx] at h2 h3 ⊢
   refine ⟨hc.1,by rw [h2];simp [pP],fun y hy =>?_,?_⟩
   ·rcases List.mem_cons.1 hy with rfl | hy
    ·exact ⟨hc.2,hx⟩
    ·exact ⟨(h3 y hy).1,(jW (h3 y hy).2).1⟩
   ·simp only [List.map_cons,List.nodup_cons]
    refine ⟨fun hm =>?_,h4⟩
    obtain ⟨y,hy,e⟩:=List.mem_map.1 hm
    have:=(jW (h3 y hy).2).2
    rw [dQ] at this
    exact this e
  ·have:=(z3f h).1;cases this
theorem z3g:∀{l:List Param} {ok:Bool} {m:List (Bs×Bs)},(tY ok m l).1=true →
  ok=true∧(tY ok m l).2=m++pP Param.name Param.type l∧(∀p∈l,yY p.name=true∧zH m p.name=none)∧(l.map Param.name).Nodup
 | [],ok,m,h=>⟨h,by simp [tY,pP],by simp,by simp⟩
 | x::l,ok,m,h=>by
  simp only [tY] at h ⊢
  split at h
  ·rename_i hc
   rw [if_pos hc]
   simp only [Bool.and_eq_true] at hc
   obtain ⟨h1,h2,h3,h4⟩:=z3g h
   have hx:zH m x.name=none:=by simpa using h1
   rw [uN hx] at h2 h3 ⊢
   refine ⟨hc.1,by rw [h2];simp [pP],fun y hy =>?_,?_⟩
   ·rcases List.mem_cons.1 hy with rfl | hy
    ·exact ⟨hc.2,hx⟩
    ·exact ⟨(h3 y hy).1,(jW (h3 y hy).2).1⟩
   ·simp only [List.map_cons,List.nodup_cons]
    refine ⟨fun hm =>?_,h4⟩
    obtain ⟨y,hy,e⟩:=List.mem_map.1 hm
    have:=(jW (h3 y hy).2).2
    rw [dQ] at this
    exact this e
  ·have:=(z3g h).1;cases this
structure Right (c:Core):Prop where
 datas:(zR c).datas=pP Data.name id (truthsD::c.datas)
 cons:(zR c).cons=z1r (truthsD::c.datas)
 funs:(zR c).funs=pP Fun.name id c.funs
 inputs:(zR c).inputs=pP Param.name Param.type c.inputs
 dN:∀d∈truthsD::c.datas,qG d.name=true∧d.name≠qC∧(d.cons.map Con.name).Nodup∧∀x∈d.cons,qG x.name=true
 dU:((truthsD::c.datas).map Data.name).Nodup
 cU:(((truthsD::c.datas).map fun d=>d.cons.map Con.name).flatten).Nodup
 fN:∀f∈c.funs,yY f.name=true
 fU:(c.funs.map Fun.name).Nodup
 iN:∀p∈c.inputs,yY p.name=true
 iU:(c.inputs.map Param.name).Nodup
 outs:c.outputs≠[]
 fields:∀d∈c.datas,cP (zR c) d=true
 inT:∀p∈c.inputs,kU c.datas p.type=true
 fOk:∀f∈c.funs,pK (zR c) f=true
 oOk:mF (zR c) [] c.outputs=true
theorem j9w {c:Core} (h:jH c=true):Right c:=by
 simp only [jH,Bool.and_eq_true,decide_eq_true_eq,List.all_eq_true] at h
 obtain ⟨⟨⟨⟨⟨h1,h2⟩,h3⟩,h4⟩,h5⟩,h6⟩:=h
 obtain ⟨i1,i2,i3,i4⟩:=z3g (show (tY (fsP c).1 [] c.inputs).1=true from h1)
 obtain ⟨f1,f2,f3,f4⟩:=z3f (show (tX (dsP c).1 [] c.funs).1=true from i1)
 obtain ⟨_,d2,d3,d4,d5,d6⟩:=q3d (show (z1g true [] [] (truthsD::c.datas)).1=true from f1)
 exact { datas:=d2,cons:=d3,funs:=f2,inputs:=i2,dN:=fun d hd=>⟨(d4 d hd).1,(d4 d hd).2.1,(d4 d hd).2.2.2.1,fun x hx=>((d4 d hd).2.2.2.2 x hx).1⟩,dU:=d5,cU:=d6,fN:=fun f hf=>(f3 f hf).1,fU:=f4,iN:=fun p hp=>(i3 p hp).1,iU:=i4,outs:=h2,fields:=h3,inT:=h4,fOk:=h5,oOk:=h6 }
theorem z2b:qG sNo=false:=by decide
theorem z3r {l:List Data}:(((l.map fun d=>d.cons.map Con.name).flatten).Nodup)→∀{d x},d∈l→x∈d.cons→zH (z1r l) x.name=some ⟨d.name,x⟩:=by
 induction l with
 | nil=>intro _ d x h;cases h
 | cons e l ih =>
  intro hn d x hd hx
  simp only [List.map_cons,List.flatten_cons] at hn
  have hn':=yV hn
  simp only [z1r,List.map_cons,List.flatten_cons]
  rcases List.mem_cons.1 hd with rfl | hd
  ·have:=z1w (val:=fun x=>(⟨d.name,x⟩:Maker)) hn'.1 hx
   generalize pP Con.name (fun x=>(⟨d.name,x⟩:Maker)) d.cons=s at this ⊢
   clear hn hn' ih
   induction s with
   | nil=>cases this
   | cons p s ih2 =>
    obtain ⟨k,y⟩:=p
    simp only [List.cons_append,zH] at this ⊢
    split at this
    ·rename_i h;rw [if_pos h];exact this
    ·rename_i h;rw [if_neg h];exact ih2 this
  ·rw [z2l]
   ·exact ih hn'.2.1 hd hx
   ·cases hg:zH (pP Con.name (fun x=>(⟨e.name,x⟩:Maker)) e.cons) x.name with
    | none=>rfl
    | some v =>
     obtain ⟨y,hy,h1,_⟩:=jI hg
     exact absurd (List.mem_flatten.2 ⟨_,List.mem_map_of_mem (f:=fun d:Data=>d.cons.map Con.name) hd,List.mem_map_of_mem (f:=Con.name) hx⟩) (hn'.2.2 x.name (h1▸List.mem_map_of_mem (f:=Con.name) hy))
theorem z3s {l:List Data} {n:Bs} {m:Maker} (h:zH (z1r l) n=some m):∃d∈l,m.data=d.name∧m.con∈d.cons∧m.con.name=n:=by
 induction l with
 | nil=>simp [z1r,zH] at h
 | cons e l ih =>
  simp only [z1r,List.map_cons,List.flatten_cons] at h
  cases hg:zH (pP Con.name (fun x=>(⟨e.name,x⟩:Maker)) e.cons) n with
  | none =>
   rw [z2l hg] at h
   obtain ⟨d,hd,r⟩:=ih h
   exact ⟨d,List.mem_cons_of_mem _ hd,r⟩
  | some v =>
   have hv:zH (pP Con.name (fun x=>(⟨e.name,x⟩:Maker)) e.cons++(l.map fun d=>pP Con.name (fun x=>(⟨d.name,x⟩:Maker)) d.cons).flatten) n=some v:=by
    clear h ih
    generalize pP Con.name (fun x=>(⟨e.name,x⟩:Maker)) e.cons=s at hg ⊢
    induction s with
    | nil=>cases hg
    | cons p s ih2 =>
     obtain ⟨k,y⟩:=p
     simp only [List.cons_append,zH] at hg ⊢
     split at hg
     ·rename_i h;rw [if_pos h];exact hg
     ·rename_i h;rw [if_neg h];exact ih2 hg
   rw [hv] at h
   simp only [Option.some.injEq] at h;subst h
   obtain ⟨y,hy,h1,h2⟩:=jI hg
   subst h2
   exact ⟨e,List.mem_cons_self,rfl,hy,h1⟩
def z6r (l:List Named):List (Bs×Val):=l.foldl (fun m x=>qM m x.name x.value) []
theorem y4u {T:Table}:∀{l:List Named} {ps:List Param},aH T l ps=true→l.map Named.name=ps.map Param.name∧∀p∈ps,∃x∈l,x.name=p.name∧nP T x.value p.type=true
 | [],[],_=>⟨rfl,fun p h=>by cases h⟩
 | v::vs,p::ps,h=>by
  simp only [aH,Bool.and_eq_true,decide_eq_true_eq] at h
  obtain ⟨h1,h2⟩:=y4u h.2
  refine ⟨by simp [h1,h.1.1.1],fun q hq =>?_⟩
  rcases List.mem_cons.1 hq with rfl | hq
  ·exact ⟨v,List.mem_cons_self,h.1.1.1,h.1.2⟩
  ·obtain ⟨x,hx,r⟩:=h2 q hq;exact ⟨x,List.mem_cons_of_mem _ hx,r⟩
 | [],_::_,h=>by cases h
 | _::_,[],h=>by cases h
theorem j8i {l:List Named} (hn:(l.map Named.name).Nodup) {x:Named} (hx:x∈l):zH (z6r l) x.name=some x.value:=by
 have:∀(l:List Named) (m:List (Bs×Val)),(l.map Named.name).Nodup→∀x,(x∈l→zH (l.foldl (fun m x=>qM m x.name x.value) m) x.name=some x.value)∧∀n,n∉l.map Named.name→zH (l.foldl (fun m x=>qM m x.name x.value) m) n=zH m n:=by
  intro l
  induction l with
  | nil=>intro m _ x;exact ⟨fun h=>(by cases h),fun n _=>rfl⟩
  | cons y l ih =>
   intro m hn x
   simp only [List.map_cons,List.nodup_cons] at hn
   obtain ⟨k1,k2⟩:=ih (qM m y.name y.value) hn.2 x
   simp only [List.foldl_cons]
   refine ⟨fun hx =>?_,fun n hnn =>?_⟩
   ·rcases List.mem_cons.1 hx with rfl | hx
    ·rw [k2 _ hn.1,jE,if_pos rfl]
    ·exact k1 hx
   ·simp only [List.map_cons,List.mem_cons,not_or] at hnn
    rw [k2 n hnn.2,jE,if_neg hnn.1]
 exact (this l [] hn x).1 hx
theorem q9u {c:Core} (hR:Right c) {t:Bs} (h:wM (zR c) t=true):t≠sNo:=by
 rintro rfl
 simp only [wM,Bool.or_eq_true,decide_eq_true_eq] at h
 rcases h with h | h
 ·rw [hR.datas] at h
  cases hg:zH (pP Data.name id (truthsD::c.datas)) sNo with
  | none=>rw [hg] at h;cases h
  | some d =>
   obtain ⟨x,hx,h1,_⟩:=jI hg
   have:=(hR.dN x hx).1
   rw [h1,z2b] at this;cases this
 ·exact sInt_ne h.symm
theorem q2y {c:Core} (hR:Right c) {inp:List (Bs×Val)}:Sound (zR c) ⟨(zR c).funs,inp⟩ where
 funs:=rfl
 fOk n f h:=by
  rw [hR.funs] at h
  obtain ⟨x,hx,_,rfl⟩:=jI h
  have:=hR.fOk x hx
  refine ⟨this,?_⟩
  simp only [pK,Bool.and_eq_true] at this
  exact q9u hR this.1.1.2
 dNo:=by
  rw [hR.datas]
  cases hg:zH (pP Data.name id (truthsD::c.datas)) sNo with
  | none=>rfl
  | some d =>
   obtain ⟨x,hx,h1,_⟩:=jI hg
   have:=(hR.dN x hx).1
   rw [h1,z2b] at this;cases this
 dInt:=by
  rw [hR.datas]
  cases hg:zH (pP Data.name id (truthsD::c.datas)) qC with
  | none=>rfl
  | some d =>
   obtain ⟨x,hx,h1,_⟩:=jI hg
   exact absurd h1 (hR.dN x hx).2.1
 cD con m h:=by
  rw [hR.cons] at h
  obtain ⟨d,hd,h1,h2,h3⟩:=z3s h
  refine ⟨fun e =>?_,h3,h1▸(hR.dN d hd).2.1,d,?_,h2⟩
  ·have:=(hR.dN d hd).2.2.2 _ h2
   rw [h3,e,z2b] at this;cases this
  ·rw [hR.datas,h1];exact z1w (val:=id) hR.dU hd
 dC t d x h hx:=by
  rw [hR.datas] at h
  obtain ⟨d',hd,rfl,rfl⟩:=jI h
  rw [hR.cons]
  exact z3r hR.cU hd hx
 cF:=by
  rw [hR.cons]
  exact z3r hR.cU (d:=truthsD) (x:=⟨z4z,[]⟩) List.mem_cons_self (by simp [truthsD,z4z])
 cT:=by
  rw [hR.cons]
  exact z3r hR.cU (d:=truthsD) (x:=⟨y6d,[]⟩) List.mem_cons_self (by simp [truthsD,y6d])
theorem kV {c:Core} (h:yC c=0):Right c:=by
 unfold yC at h
 split at h
 ·cases h
 split at h
 ·cases h
 split at h
 ·rename_i hr;exact j9w hr
 ·cases h
theorem y7o {c:Core} (hR:Right c) {l:List Named} (hg:aH (zR c) l c.inputs=true):Closed (zR c) ⟨(zR c).funs,z6r l⟩ (fun _=>True):=by
 obtain ⟨h1,h2⟩:=y4u hg
 refine ⟨fun _ _=>trivial,fun _ _=>trivial,fun {e t} _ _ h =>?_,fun _ _ _=>trivial⟩
 rw [hR.inputs] at h
 obtain ⟨p,hp,h5,rfl⟩:=jI h
 obtain ⟨x,hx,h3,h4⟩:=h2 p hp
 exact ⟨x.value,by rw [← h5,← h3];exact j8i (by rw [h1];exact hR.iU) hx,h4⟩
end Go.Sw

namespace Go.Sw
theorem z1p {C:Ctx} {f:Fun} {az:List Val} {g r:Nat} {v:Val} (h:pI (jJ C) f az g=.ok v r):r < g:=z8n (jB C) h
theorem j4t {c:Core} {P:Ex→Prop} (hR:Right c) {inp:List (Bs×Val)} (hP:Closed (zR c) ⟨(zR c).funs,inp⟩ P) {n:Bs} {f:Fun} {vs:List Val} (h:zH (zR c).funs n=some f) (hb:P f.body) (hv:oG (zR c) vs (f.params.map Param.type)) (g:Nat) :
  Good (zR c) (pI (jJ ⟨(zR c).funs,inp⟩) f vs g) f.result :=
 y4b (q2y hR) h hb hv (fun e s env t=>sound (q2y hR) hP g e s env t)
theorem y1g {T:Table}:∀{l seen:List Bs},mF T seen l=true→∀o∈l,∃f,zH T.funs o=some f∧f.params=[]
 | [],_,_,_,h=>by cases h
 | p::l,seen,hk,o,ho=>by
  simp only [mF] at hk
  split at hk
  ·cases hk
  ·rename_i f hf
   simp only [Bool.and_eq_true,decide_eq_true_eq] at hk
   rcases List.mem_cons.1 ho with rfl | ho
   ·exact ⟨f,hf,List.eq_nil_of_length_eq_zero hk.1.1⟩
   ·exact y1g hk.2 o ho
theorem q9h {c:Core} (hR:Right c) {inp:List (Bs×Val)} (hP:Closed (zR c) ⟨(zR c).funs,inp⟩ (fun _=>True)):∀{os:List Bs},(∀o∈os,o∈c.outputs)→∀g,vB ⟨(zR c).funs,inp⟩ os g≠.stuck ∧
  ∀vs r,vB ⟨(zR c).funs,inp⟩ os g=.ok vs r→All2 (fun o v=>∃f,zH (zR c).funs o=some f∧nP (zR c) v f.result=true) os vs
 | [],_,g=>⟨fun h=>(by cases h),fun vs r h=>by simp only [vB,Ev.ok.injEq] at h;obtain ⟨rfl,rfl⟩:=h;trivial⟩
 | o::os,ho,g=>by
  obtain ⟨f,hf,hp⟩:=y1g hR.oOk o (ho o List.mem_cons_self)
  obtain ⟨k1,k2⟩:=j4t hR hP (vs:=[]) hf trivial (by rw [hp];trivial) g
  simp only [vB,hf]
  cases hr:pI (jJ ⟨(zR c).funs,inp⟩) f [] g with
  | stuck=>exact absurd hr k1
  | spent=>exact ⟨fun h=>(by cases h),fun vs r h=>by cases h⟩
  | ok v g1 =>
   obtain ⟨k3,k4⟩:=q9h hR hP (os:=os) (fun x hx=>ho x (List.mem_cons_of_mem _ hx)) g1
   simp only [Ev.bind]
   cases hr2:vB ⟨(zR c).funs,inp⟩ os g1 with
   | stuck=>exact absurd hr2 k3
   | spent=>exact ⟨fun h=>(by cases h),fun vs r h=>by cases h⟩
   | ok l g2 =>
    refine ⟨fun h=>(by cases h),fun vs r h =>?_⟩
    simp only [Ev.ok.injEq] at h
    obtain ⟨rfl,rfl⟩:=h
    exact ⟨⟨f,hf,k2 _ _ hr⟩,k4 _ _ hr2⟩
end Go.Sw

namespace Go.Sw
variable {P:Program} {n:Nat} {E:List (Nat×Value)} {D:List Deferred} {a:Act} {Φ Ψ:Fz} {K:List Res} {w:World}
variable {dst:Option Tmp} {ty:TypeId} {pos:String} {aft:Array Edge} {g:Option (Nat×Bool)}
variable {Kn:Value→World→Prop} {Qp:List PanicEntry→World→Prop}
def aQ:List (Int×Value)→Int→Option Value
 | [],_=>none
 | (k,v)::m,s=>if s=k then some v else aQ m s
def iput:List (Int×Value)→Int→Value→List (Int×Value)
 | [],s,x=>[(s,x)]
 | (k,v)::m,s,x=>if s=k then (k,x)::m else (k,v)::iput m s x
def tF:List (Int×Value)→Int→Nat→Option (Nat×Value)
 | [],_,_=>none
 | (k,v)::m,s,i=>if s=k then some (i,v) else tF m s (i+1)
theorem z1y:∀(es:List MapEntry) (m:List (Int×Value)) (s:Int) (i:Nat),es.map (fun e=>(e.key,e.val))=m.map (fun p=>(Value.int .i64 p.1,p.2)) →
  Instr.findNow (.int .i64) (.int .i64 s) es i=some (tF m s i)
 | [],[],_,_,_=>rfl
 | [],_::_,_,_,h=>by simp at h
 | _::_,[],_,_,h=>by simp at h
 | e::es,(k,v)::m,s,i,h=>by
  simp only [List.map_cons,List.cons.injEq,Prod.mk.injEq] at h
  obtain ⟨⟨h1,h2⟩,h3⟩:=h
  simp only [Instr.findNow,h1,Instr.sameNow,if_true,tF]
  by_cases hs:s=k
  ·subst hs;simp [h2]
  ·have hb:(s==k)=false:=by simpa using hs
   simp only [hb,if_neg hs]
   exact z1y es m s (i+1) h3
theorem y4x:∀(m:List (Int×Value)) (s:Int) (i:Nat),(tF m s i).map (·.2)=aQ m s
 | [],_,_=>rfl
 | (k,v)::m,s,i=>by
  simp only [tF,aQ]
  split
  ·rfl
  ·exact y4x m s (i+1)
theorem z0f {kt:TypeId} (hk:Under P kt (.int .i64)) (e:Bool) (v:Value) (j:Nat):(Instr.checkKey e (j+1) kt v).run P w=.ok () w:=by
 simp [Instr.checkKey,Sem.run_bind,hk w]
theorem z2z {kt:TypeId} (hk:Under P kt (.int .i64)) {es:Array MapEntry} {m:List (Int×Value)} (h:es.toList.map (fun e=>(e.key,e.val))=m.map (fun p=>(Value.int .i64 p.1,p.2))) (s:Int) :
  (Instr.findKey kt (.int .i64 s) es.toList).run P w=.ok (tF m s 0) w:=by
 simp [Instr.findKey,Sem.run_bind,hk w,z1y _ _ _ _ h]
theorem q2u {t kt et:TypeId} {b:Nat} {es:Array MapEntry} {clock:Nat} {m:List (Int×Value)} {z:Value} (ht:Under P t (.map kt et)) (hk:Under P kt (.int .i64)) (hz:ZeroT P et z)
  (hb:w.heap[b]? = some (.map es clock)) (h:MapOkI es clock m) (s:Int) (ok:Bool) :
  (Instr.lookup t (.map (some b)) (.int .i64 s) ok).run P w=.ok (zF ok z (aQ m s)) w:=by
 have h1:(getObj b).run P w=.ok (.map es clock) w:=by simp [getObj,Sem.run,hb]
 simp only [Instr.lookup,Sem.run_bind,ht w,Result.andThen_ok,h1,Sem.run_pure,z0f hk,z2z hk h.eq]
 have:=y4x m s 0
 cases hm:tF m s 0 with
 | none=>rw [hm] at this;simp only [Option.map_none] at this;rw [← this];simp [hz w,zF]
 | some p=>rw [hm] at this;simp only [Option.map_some] at this;rw [← this];simp [zF]
theorem xI (i:Nat) {t kt et:TypeId} {x y:Operand} {b:Nat} {m:List (Int×Value)} {z:Value} {s:Int} {ok:Bool} (ht:Under P t (.map kt et)) (hk:Under P kt (.int .i64)) (hz:ZeroT P et z)
  (he:EnvR n E D a) (hm:Sees Φ K w) (hx:ev E x=some (.map (some b))) (hy:ev E y=some (.int .i64 s)) (hK:qJ K i=some (.imp b m)):Ok P a (.lookup t x y ok) ty w (zF ok z (aQ m s)):=fun _ _ _ _=>by
 obtain ⟨es,clock,h1,h2⟩:=hm.own _ (qH hK)
 simp only [execOp,he.ev hx,he.ev hy]
 simp [Sem.run_bind,q2u ht hk hz h1 h2]
theorem y7j {t:TypeId} (hm:Mem Φ K w) (k:∀b w',Mem Φ (.imp b []::K) w'→Kn (.map (some b)) w'):Oper.eff P ⟨dst,.makeMap t none,ty,pos,aft,g⟩ a w Kn Qp:=by
 unfold Oper.eff
 have:(execOp a.eval ⟨dst,.makeMap t none,ty,pos,aft,g⟩).run P w=.ok (.value (.map (some w.heap.size))) { w with heap:=w.heap.push (.map #[] 0) }:=by
  simp [execOp,Instr.makeMap]
 rw [this]
 refine k _ _ (hm.more rfl rfl (fun b hb=>pR hb) ⟨#[],0,by simp,by simp,by simp,by simp⟩ (by simp [Res.foot]))
theorem q8v:∀(m:List (Int×Value)) (s:Int) (v:Value) (j:Nat),iput m s v=match tF m s j with | none=>m++[(s,v)] | some (i,_)=>m.set (i - j) (s,v)
 | [],_,_,_=>rfl
 | (k,x)::m,s,v,j=>by
  simp only [iput,tF]
  split
  ·subst_vars;simp
  ·have:=q8v m s v (j+1)
   rw [this]
   have hge:∀(m:List (Int×Value)) (j i:Nat) (y:Value),tF m s j=some (i,y)→j≤i:=by
    intro m
    induction m with
    | nil=>intro j i y h;simp [tF] at h
    | cons p m ih =>
     intro j i y h
     obtain ⟨k,x⟩:=p
     simp only [tF] at h
     split at h
     ·simp only [Option.some.injEq,Prod.mk.injEq] at h;omega
     ·have:=ih (j+1) i y h;omega
   cases hm:tF m s (j+1) with
   | none=>simp
   | some p =>
    obtain ⟨i,y⟩:=p
    have h1:=hge m (j+1) i y hm
    have e:i - j=(i - (j+1))+1:=by omega
    simp only [e,List.set_cons_succ]
theorem q1h:∀(m:List (Int×Value)) (s:Int) (j i:Nat) (y:Value),tF m s j=some (i,y)→m[i - j]? = some (s,y)∧j≤i
 | [],_,_,_,_,h=>by simp [tF] at h
 | (k,x)::m,s,j,i,y,h=>by
  simp only [tF] at h
  split at h
  ·simp only [Option.some.injEq,Prod.mk.injEq] at h
   obtain ⟨rfl,rfl⟩:=h;subst_vars;simp
  ·obtain ⟨h1,h2⟩:=q1h m s (j+1) i y h
   have e:i - j=(i - (j+1))+1:=by omega
   exact ⟨by rw [e];simpa using h1,by omega⟩
theorem z9d (i:Nat) {t kt et:TypeId} {x y z:Operand} {b:Nat} {m:List (Int×Value)} {s:Int} {v:Value} (ht:Under P t (.map kt et)) (hk:Under P kt (.int .i64))
  (he:EnvR n E D a) (hm:Mem Φ K w) (hx:ev E x=some (.map (some b))) (hy:ev E y=some (.int .i64 s)) (hz:ev E z=some v) (hK:qJ K i=some (.imp b m))
  (k:∀w',Mem Φ (wK K i (.imp b (iput m s v))) w'→Kn undef w'):Oper.eff P ⟨dst,.mapUpdate t x y z,ty,pos,aft,g⟩ a w Kn Qp:=by
 obtain ⟨es,clock,hb,hok⟩:=hm.own _ (qH hK)
 have h1:(getObj b).run P w=.ok (.map es clock) w:=by simp [getObj,Sem.run,hb]
 have hlt:b < w.heap.size:=(Array.getElem?_eq_some_iff.1 hb).1
 have hset:∀o,(setObj b o).run P w=.ok () { w with heap:=w.heap.setIfInBounds b o }:=fun o=>by simp only [setObj,Sem.run,hb]
 have fin:∀es' clock',MapOkI es' clock' (iput m s v)→Mem Φ (wK K i (.imp b (iput m s v))) { w with heap:=w.heap.setIfInBounds b (.map es' clock') }:=fun es' clock' h =>
  hm.upd hK rfl rfl (fun c hc hne=>by simp only;rw [Array.getElem?_setIfInBounds_ne (fun e=>hne (by simp [Res.foot,e]))]) ⟨es',clock',by simp [hlt],h⟩ (.inl rfl)
 unfold Oper.eff
 simp only [execOp,he.ev hx,he.ev hy,he.ev hz,Instr.mapUpdate,Sem.run_bind,ht w,Result.andThen_ok,h1,z0f hk,z2z hk hok.eq]
 have hput:=q8v m s v 0
 cases hmx:tF m s 0 with
 | none =>
  rw [hmx] at hput
  simp only at hput
  simp only [hset,Result.andThen_ok,Sem.run_pure,vZ]
  refine k _ (fin _ _ ⟨?_,?_,?_⟩)
  ·rw [hput];simp [hok.eq]
  ·intro e he
   simp only [Array.toList_push,List.mem_append,List.mem_singleton] at he
   rcases he with he | rfl
   ·have:=hok.old e he;omega
   ·simp
  ·simp only [Array.toList_push,List.map_append,List.map_cons,List.map_nil]
   rw [List.nodup_append]
   refine ⟨hok.nodup,by simp,fun b hb c hc hbc =>?_⟩
   simp only [List.mem_singleton] at hc
   obtain ⟨e,he,rfl⟩:=List.mem_map.1 hb
   have:=hok.old e he
   omega
 | some p =>
  obtain ⟨j,y⟩:=p
  rw [hmx] at hput
  simp only [Nat.sub_zero] at hput
  obtain ⟨hj,_⟩:=q1h m s 0 j y hmx
  simp only [Nat.sub_zero] at hj
  have hes:es.toList[j]?.map (fun e=>(e.key,e.val))=some (Value.int .i64 s,y):=by
   rw [← List.getElem?_map,hok.eq,List.getElem?_map,hj];rfl
  obtain ⟨e,hje,hee⟩:∃e,es[j]? = some e∧e.key=.int .i64 s:=by
   cases h:es[j]? with
   | none =>
    have h':es.toList[j]? = none:=by simpa using h
    rw [h'] at hes;cases hes
   | some e =>
    have h':es.toList[j]? = some e:=by simpa using h
    rw [h'] at hes;simp only [Option.map_some,Option.some.injEq,Prod.mk.injEq] at hes;exact ⟨e,rfl,hes.1⟩
  have hks:(Instr.keyThatStays (((es[j]?).map (·.key)).getD (.int .i64 s)) (.int .i64 s)).run P w=.ok (.int .i64 s) w:=by
   simp [hje,hee,Instr.keyThatStays,Instr.sameBits,gE]
  simp only [Sem.run_bind,hks,hset,Result.andThen_ok,Sem.run_pure,vZ]
  have hjl:j < es.size:=(Array.getElem?_eq_some_iff.1 hje).1
  have hml:(es.modify j fun e=>{ e with key:=Value.int .i64 s,val:=v }).toList=es.toList.modify j (fun e=>{ e with key:=Value.int .i64 s,val:=v }):=by simp
  refine k _ (fin _ _ ⟨?_,?_,?_⟩)
  ·rw [hml,hput]
   apply List.ext_getElem?
   intro q
   have hq:es.toList[q]?.map (fun e=>(e.key,e.val))=m[q]?.map (fun p=>(Value.int .i64 p.1,p.2)):=by rw [← List.getElem?_map,hok.eq,List.getElem?_map]
   simp only [List.getElem?_map,List.getElem?_modify,List.getElem?_set]
   by_cases hjq:j=q
   ·subst hjq
    have hml':j < m.length:=(List.getElem?_eq_some_iff.1 hj).1
    have h':es.toList[j]? = some e:=by simpa using hje
    simp [h',hml']
   ·have hq':=hq
    simp only [Array.getElem?_toList] at hq'
    simp [hjq,hq']
  ·intro x hx
   rw [hml] at hx
   obtain ⟨q,hq⟩:=List.mem_iff_getElem?.1 hx
   rw [List.getElem?_modify] at hq
   cases hz':es.toList[q]? with
   | none=>rw [hz'] at hq;simp at hq
   | some e' =>
    rw [hz'] at hq
    have hb':=hok.old e' (List.mem_of_getElem? hz')
    have hq2:=Option.some.inj hq
    rw [← hq2]
    show (if j=q then _ else _:MapEntry).born < clock
    by_cases hjq:j=q
    ·rw [if_pos hjq];exact hb'
    ·rw [if_neg hjq];exact hb'
  ·rw [hml]
   have:(es.toList.modify j (fun e=>{ e with key:=Value.int .i64 s,val:=v })).map (·.born)=es.toList.map (·.born):=by
    apply List.ext_getElem?
    intro q
    simp only [List.getElem?_map,List.getElem?_modify]
    cases es.toList[q]? with
    | none=>simp
    | some e'=>simp;split <;> rfl
   rw [this];exact hok.nodup
theorem kM (i:Nat) {t kt et:TypeId} {x y z:Operand} {b:Nat} {m:List (Int×Value)} {s:Int} {v:Value} (ht:Under P t (.map kt et)) (hk:Under P kt (.int .i64))
  (he:EnvR n E D a) (hm:Mem Φ K w) (hx:ev E x=some (.map (some b))) (hy:ev E y=some (.int .i64 s)) (hz:ev E z=some v) (hK:qJ K i=some (.imp b m))
  (k:∀w',Mem Φ (wK K i (.imp b (iput m s v))) w'→Kn undef w'):Oper.eff P ⟨dst,.insert t x y z,ty,pos,aft,g⟩ a w Kn Qp :=
 show Oper.eff P ⟨dst,.mapUpdate t x y z,ty,pos,aft,g⟩ a w Kn Qp from z9d i ht hk he hm hx hy hz hK k
end Go.Sw

namespace Go.Sw
theorem Row.one {Φ:Fz} {v:Value} {k:Nat} {cs:List Value} (h:Row Φ v k cs):Value.oneCell' v=true:=by
 rcases h with ⟨rfl,_⟩ | ⟨q,m,c,rfl,_⟩ <;> rfl
theorem SliceOf.one {α:Type} {R:Fz→List Value→α→Prop} {Φ:Fz} {k:Nat} {v:Value} {xs:List α} (h:SliceOf R Φ k v xs):Value.oneCell' v=true :=
 let ⟨_,h1,_⟩:=h;h1.one
def y3c {α:Type} (R:Fz→List Value→α→Prop):Prop:=∀Φ c x,R Φ c x→c.all Value.oneCell'=true
theorem Chunks.ones {α:Type} {R:Fz→List Value→α→Prop} (hR:y3c R) {Φ:Fz} {k:Nat}:∀{xs:List α} {cs:List Value},Chunks (R Φ) k cs xs→cs.all Value.oneCell'=true
 | [],cs,h=>by simp only [Chunks] at h;subst h;rfl
 | x::xs,cs,⟨c,rest,h1,_,h3,h4⟩=>by
  subst h1
  rw [List.all_append,hR _ _ _ h3,Chunks.ones hR h4];rfl
theorem RStr.ones:y3c RStr:=fun _ c x h=>by cases h;rfl
theorem RVal.ones:y3c RVal:=fun _ c x h=>by
 obtain ⟨s,rfl,_,h1⟩:=RVal.iff.1 h
 simp only [List.all_cons,h1.one];rfl
theorem REx.ones:y3c REx:=fun _ c x h=>by
 obtain ⟨s,t,rfl,_,h1,h2⟩:=REx.iff.1 h
 simp only [List.all_cons,h1.one,h2.one];rfl
theorem RArm.ones:y3c RArm:=fun Φ c x h=>by
 obtain ⟨s,b,rfl,h1,h2⟩:=RArm.iff.1 h
 have:=REx.ones Φ b x.body h2
 simp only [List.all_cons,h1.one,this];rfl
theorem RParam.ones:y3c RParam:=fun _ c x h=>by cases h;rfl
theorem RCon.ones:y3c RCon:=fun _ c x h=>by
 obtain ⟨s,rfl,h1⟩:=h
 simp only [List.all_cons,h1.one];rfl
theorem RData.ones:y3c RData:=fun _ c x h=>by
 obtain ⟨s,rfl,h1⟩:=h
 simp only [List.all_cons,h1.one];rfl
theorem RFun.ones:y3c RFun:=fun Φ c x h=>by
 obtain ⟨s,b,rfl,h1,h2⟩:=h
 have:=REx.ones Φ b x.body h2
 simp only [List.all_cons,h1.one,this];rfl
theorem RNamed.ones:y3c RNamed:=fun Φ c x h=>by
 obtain ⟨b,rfl,h2⟩:=h
 have:=RVal.ones Φ b x.value h2
 simp only [List.all_cons,this];rfl
section
variable {P:Program} {n:Nat} {E:List (Nat×Value)} {D:List Deferred} {a:Act} {Φ Ψ:Fz} {K:List Res} {w:World}
end
theorem cG (ok:Bool) (ds:List (Bs×Data)) (m:List (Bs×Maker)) (d:Data) (l:List Data) :
  z1g ok ds m (d::l)=z1g (xP d.name (aF ok ds d) m d.cons).1 (pO ok ds d) (xP d.name (aF ok ds d) m d.cons).2 l:=rfl
theorem x1c {c:Core} {l1:List (Bs×Data)} {l2:List (Bs×Maker)} {o1 o2 o3:Bool} {l3:List (Bs×Fun)} {l4:List (Bs×Bs)} (h1:z1g true [] [] (truthsD::c.datas)=(o1,l1,l2)) (h2:tX o1 [] c.funs=(o2,l3)) (h3:tY o2 [] c.inputs=(o3,l4)) :
  zR c=⟨c,l1,l2,l3,l4⟩∧nY c=o3:=by
 have e1:dsP c=(o1,l1,l2):=h1
 have e2:fsP c=(o2,l3):=by unfold fsP;rw [e1];exact h2
 have e3:isP c=(o3,l4):=by unfold isP;rw [e2];exact h3
 unfold zR nY
 rw [e1,e2,e3];exact ⟨rfl,rfl⟩
end Go.Sw

namespace Go.Sw
mutual
theorem z4s:∀(e:Ex) (l:Int),(jC e l).1=false→((zS e).length:Int)+16+17 * (jC e l).2≤17 * l
 | .mk k n s args arms,l=>by
  intro h
  rw [z2p] at h ⊢
  by_cases hl:l - 1 < 0
  ·rw [if_pos hl] at h;cases h
  ·rw [if_neg hl] at h ⊢
   simp only [Ex.args,Ex.arms] at h ⊢
   have h1:=meass_bind args (l - 1)
   cases hm:meass args (l - 1) with
   | mk b q =>
    rw [hm] at h h1
    cases b with
    | true=>cases h
    | false =>
     have h2:=measa_bind arms q h
     have h3:=h1 rfl
     simp only [tP] at h h2 h3 ⊢
     simp only [zS,List.length_append]
     split <;> simp <;> omega
theorem meass_bind:∀(es:List Ex) (l:Int),(meass es l).1=false→((bindPs es).length:Int)+17 * (meass es l).2≤17 * l
 | [],l=>by intro _;simp [meass,bindPs]
 | e::es,l=>by
  intro h
  rw [oR] at h ⊢
  by_cases hb:(jC e l).1=true
  ·rw [if_pos hb] at h;cases h
  ·rw [if_neg hb] at h ⊢
   have h1:=z4s e l (by simpa using hb)
   have h2:=meass_bind es _ h
   simp only [bindPs,List.length_append]
   omega
theorem measa_bind:∀(es:List Arm) (l:Int),(measa es l).1=false→((bindPa es).length:Int)+17 * (measa es l).2≤17 * l
 | [],l=>by intro _;simp [measa,bindPa]
 | .mk c vs b::es,l=>by
  intro h
  have e:=dA (.mk c vs b) es l
  change measa (.mk c vs b::es) l=(if 16 < vs.length then (true,l) else if (jC b l).1 then (true,(jC b l).2) else measa es (jC b l).2) at e
  rw [e] at h ⊢
  by_cases hv:16 < vs.length
  ·rw [if_pos hv] at h;cases h
  ·rw [if_neg hv] at h ⊢
   by_cases hb:(jC b l).1=true
   ·rw [if_pos hb] at h;cases h
   ·rw [if_neg hb] at h ⊢
    have h1:=z4s b l (by simpa using hb)
    have h2:=measa_bind es _ h
    simp only [bindPa,List.length_append]
    omega
end
theorem y5h:∀{fs:List Fun} {l:Int},tO fs l=false→l≤6000→∀f∈fs,f.params.length≤16∧(zS f.body).length≤102000
 | [],_,_,_,_,h=>by cases h
 | g::fs,l,h,hl,f,hf=>by
  simp only [tO,Bool.or_eq_false_iff,decide_eq_false_iff_not] at h
  have h1:=z4s g.body l h.1.2
  have h2:=mB g.body l h.1.2
  rcases List.mem_cons.1 hf with rfl | hf
  ·exact ⟨by omega,by omega⟩
  ·exact y5h h.2 (by omega) f hf
theorem tM {c:Core} (h:xL c=false) {f:Fun} (hf:f∈c.funs):f.params.length≤16∧(zS f.body).length≤102000:=by
 simp only [xL,Bool.or_eq_false_iff] at h
 exact y5h h.2 (by omega) f hf
theorem z6k {c:Core} (h:nY c=true) {n:Bs} {f:Fun} (hf:zH (zR c).funs n=some f):f∈c.funs:=by
 obtain ⟨i1,_⟩:=z3g (show (tY (fsP c).1 [] c.inputs).1=true from h)
 obtain ⟨_,f2,_⟩:=z3f (show (tX (dsP c).1 [] c.funs).1=true from i1)
 have e:(zR c).funs=pP Fun.name id c.funs:=f2
 rw [e] at hf
 obtain ⟨x,hx,_,rfl⟩:=jI hf
 exact hx
theorem z3h {c:Core} (hl:xL c=false) (h:nY c=true):∀n f,zH (zR c).funs n=some f→f.params.length≤1000:=fun n f hf=>by
 have:=(tM hl (z6k h hf)).1;omega
theorem wR {α:Type} {l:List α} {p:α→Bool} {i:Nat} {x:α} (h:l[i]? = some x):(l.drop i).all p=(p x&&(l.drop (i+1)).all p):=by
 rw [zA h];rfl
theorem y6y {α:Type} {l:List α} {p:α→Bool} {i:Nat} (h:¬i < l.length):(l.drop i).all p=true:=by
 rw [zE h];rfl
theorem z5n {α:Type} {l:List α} {p:α→Bool} (h:l.any (fun x => !p x)=false):l.all p=true:=by
 induction l with
 | nil=>rfl
 | cons x l ih =>
  simp only [List.any_cons,Bool.or_eq_false_iff,Bool.not_eq_false'] at h
  simp only [List.all_cons,h.1,ih h.2];rfl
theorem z5o {α:Type} {l:List α} {p:α→Bool} (h:l.any (fun x => !p x)=true):l.all p=false:=by
 induction l with
 | nil=>cases h
 | cons x l ih =>
  simp only [List.any_cons,Bool.or_eq_true,Bool.not_eq_true'] at h
  simp only [List.all_cons]
  rcases h with h | h
  ·rw [h];rfl
  ·rw [ih h];simp
end Go.Sw

namespace Go.Sw
def eqF {α β:Type} (p:α→β→Bool):List α→List β→Bool
 | [],[]=>true
 | x::xs,y::ys=>p x y&&eqF p xs ys
 | _,_=>false
theorem q8s {α β:Type} {p:α→β→Bool}:∀{l:List α} {m:List β},l.length≠m.length→eqF p l m=false
 | [],[],h=>absurd rfl h
 | [],_::_,_=>rfl
 | _::_,[],_=>rfl
 | x::xs,y::ys,h=>by simp only [eqF,q8s (l:=xs) (m:=ys) (by simpa using h),Bool.and_false]
theorem y4t (T:Table):∀(l:List Named) (ps:List Param),aH T l ps=eqF (fun v p=>decide (v.name=p.name) && !cX v.value&&nP T v.value p.type) l ps
 | [],[]=>rfl
 | v::vs,p::ps=>by simp only [aH,eqF,y4t T vs ps]
 | [],_::_=>rfl
 | _::_,[]=>rfl
theorem z0o:∀(l:List Val) (s:Int) (i:Nat),(larges l s).1=tE (fun s x=>xK x s) s l∧(larges l s).2=(yB (fun s x=>xK x s) s l i).2
 | [],s,i=>⟨rfl,rfl⟩
 | v::vs,s,i=>by
  simp only [larges,tE,yB]
  cases h:xK v s with
  | mk b q=>cases b with
   | true=>exact ⟨rfl,rfl⟩
   | false=>exact z0o vs q (i+1)
theorem z4o (v:Val) (l:Int):xK v l=if IntKind.i64.wrap (l - 1) < 0 then (true,IntKind.i64.wrap (l - 1)) else larges v.args (IntKind.i64.wrap (l - 1)):=by
 cases v;rfl
end Go.Sw

namespace Go.Sw
section
variable {P:Program} {n:Nat} {E:List (Nat×Value)} {D:List Deferred} {a:Act} {Φ Ψ:Fz} {K K':List Res} {w:World}
variable {Kn:Value→World→Prop} {Qp:List PanicEntry→World→Prop} {dst:Option Tmp} {ty:TypeId} {pos:String} {aft:Array Edge} {g:Option (Nat×Bool)}
variable {f:FuncId} {xs:Array Operand} {ts:Array TypeId} {vs fs cs:List Value} {y:Operand}
theorem kT {β:Type} {X:β→Value} {F1:β→Fz} {KO:β→List Res} {G:β→Prop} (he:EnvR n E D a) (hy:ev E y=some (.func (.func f) fs.toArray cs.toArray)) (hx:evs E xs.toList=some vs) (hf:∀args w,(callFunc f args).run P w=.ok (.enter f args) w)
  (hc:Calls P f (fs++vs++cs).toArray w (fun e w'=>∃y,e=.returned (X y)∧G y∧Mem (F1 y) (KO y) w')) (k:∀y w',G y→Mem (F1 y) (KO y) w'→Kn (X y) w') :
  Oper.eff P ⟨dst,.call { callee:=.value y,args:=xs,argTypes:=ts },ty,pos,aft,g⟩ a w Kn Qp :=
 z3z he hy hx hf hc (fun v w' h=>by obtain ⟨y,h1,h2,h3⟩:=h;cases h1;exact k _ _ h2 h3) (fun c w' h=>by obtain ⟨y,h1,_⟩:=h;cases h1) (fun w' h=>by obtain ⟨y,h1,_⟩:=h;cases h1)
theorem Sees.gsSome {i j m c k:Nat} {p:Option Addr} {T:TypeId} {cells:List Value} (hm:Sees Φ K w) (hk:qJ K i=some (.gs (.slice p m c) T k cells)) (hj:j < m):∃q,p=some q:=by
 obtain ⟨nn,_,h2⟩:=hm.own _ (qH hk)
 rcases h2 with ⟨h,_⟩ | ⟨b,cap,cur,h,_⟩
 ·simp only [Value.slice.injEq] at h;omega
 ·simp only [Value.slice.injEq] at h;exact ⟨_,h.1⟩
theorem cH (i j:Nat) {x:Operand} {T T0:TypeId} {q:Addr} {m c k:Nat} {cells:List Value} {v:Value} (he:EnvR n E D a) (hm:Sees Φ K w)
  (hx:ev E x=some (.pointer (some (q.add (j * k))))) (hk:qJ K i=some (.gs (.slice (some q) m c) T0 k cells)) (hv:cells[j * k]? = some v) (hT:Scalar P T):Ok P a (.load T x) ty w v:=fun _ _ _ _=>by
 have h1:w.cell? (q.add (j * k))=some v:=by
  rcases hm.rowIn hk with ⟨h,_⟩ | ⟨q',m',c',h,_,h3⟩
  ·cases h
  ·simp only [Value.slice.injEq,Option.some.injEq] at h
   obtain ⟨rfl,rfl,rfl⟩:=h
   exact h3 _ _ hv
 simp only [execOp,he.ev hx]
 simp [Instr.loadAt,Instr.sureAddr,loadVar,Sem.run_bind,hT w,Result.andThen,load,Sem.run,h1]
end
def uY (l:List Int):List Value:=l.map (.int .i64)
theorem z5w (l:List Int):(uY l).length=l.length:=by simp [uY]
def aK (l:List Int):Int:=l.foldl (fun a x=>IntKind.i64.wrap (a+x)) 0
theorem dO (T:Table) (v:Val) (name:Bs):nP T v name =
  if v.con=sNo∨name=qC then decide (v.con=sNo)&&decide (name=qC)&&decide (v.args.length=0)
  else match zH T.cons v.con with
   | none=>false
   | some m=>decide (m.data=name)&&decide (v.num=0)&&decide (m.con.fields.length=v.args.length)&&hasL T v.args m.con.fields:=by
 cases v;rfl
theorem j1l (T:Table) (v:Val) (vs:List Val) (f:Bs) (fs:List Bs):hasL T (v::vs) (f::fs)=(nP T v f&&hasL T vs fs):=rfl
def z5m (v:Val):Prop:=∃l:Int,0≤l∧l≤4000∧(xK v l).1=false
mutual
theorem y5c:∀(v:Val) (l:Int),0≤l→l≤4000→(xK v l).1=false→0≤(xK v l).2∧(xK v l).2 < l
 | .mk c n args,l=>by
  intro h0 h1 h
  simp only [xK] at h ⊢
  have hw:IntKind.i64.wrap (l - 1)=l - 1:=yX (by omega)
  rw [hw] at h ⊢
  split at h
  ·cases h
  ·rename_i hl
   rw [if_neg hl]
   have:=larges_le args (l - 1) (by omega) (by omega) h
   omega
theorem larges_le:∀(vs:List Val) (l:Int),0≤l→l≤4000→(larges vs l).1=false→0≤(larges vs l).2∧(larges vs l).2+vs.length≤l
 | [],l=>by intro h0 _ _;simp only [larges];simp;omega
 | v::vs,l=>by
  intro h0 h1 h
  simp only [larges] at h ⊢
  have k1:=y5c v l h0 h1
  cases hm:xK v l with
  | mk b q =>
   rw [hm] at h k1
   cases b with
   | true=>cases h
   | false =>
    have k2:=k1 rfl
    simp only at k2 h ⊢
    have k3:=larges_le vs q (by omega) (by omega) h
    simp only [List.length_cons]
    omega
end
theorem z2e:∀{vs:List Val} {l:Int},0≤l→l≤4000→(larges vs l).1=false→∀x∈vs,z5m x
 | [],_,_,_,_,x,hx=>by cases hx
 | v::vs,l,h0,h1,h,x,hx=>by
  simp only [larges] at h
  have k1:=y5c v l h0 h1
  cases hm:xK v l with
  | mk b q =>
   rw [hm] at h k1
   cases b with
   | true=>cases h
   | false =>
    have k2:=k1 rfl
    simp only at k2 h
    rcases List.mem_cons.1 hx with rfl | hx
    ·exact ⟨l,h0,h1,by rw [hm]⟩
    ·exact z2e (l:=q) (by omega) (by omega) h x hx
theorem y2g {v:Val} (h:z5m v):v.args.length≤4000∧∀x∈v.args,z5m x:=by
 obtain ⟨l,h0,h1,h⟩:=h
 rw [z4o,show IntKind.i64.wrap (l - 1)=l - 1 from yX (by omega)] at h
 split at h
 ·cases h
 ·have:=larges_le v.args (l - 1) (by omega) (by omega) h
  exact ⟨by omega,z2e (by omega) (by omega) h⟩
theorem x0p {v:Val} (h:cX v=false):z5m v:=⟨4000,by omega,by omega,h⟩
def sV (e:Ex):Prop:=∃l:Int,l≤6000∧(jC e l).1=false
theorem z6b:∀{es:List Ex} {l:Int},l≤6000→(meass es l).1=false→0≤l→((es.length:Int)≤l)∧∀x∈es,sV x
 | [],l,_,_,h0=>⟨by simpa using h0,fun x hx=>by cases hx⟩
 | e::es,l,h1,h,h0=>by
  rw [oR] at h
  by_cases hb:(jC e l).1=true
  ·rw [if_pos hb] at h;cases h
  ·have hb':(jC e l).1=false:=by simpa using hb
   rw [if_neg hb] at h
   have k1:=mB e l hb'
   have k2:(jC e l).2 < l:=by
    rw [z2p] at hb' k1 ⊢
    by_cases hl:l - 1 < 0
    ·rw [if_pos hl] at hb';cases hb'
    ·rw [if_neg hl] at hb' k1 ⊢
     cases hm:meass e.args (l - 1) with
     | mk b q =>
      have k3:=meass_le e.args (l - 1)
      rw [hm] at hb' k1 k3
      cases b with
      | true=>cases hb'
      | false =>
       have k4:=k3 rfl (by omega)
       simp only [tP] at hb' k1 k4 ⊢
       have k5:=measa_le e.arms q hb' (by omega)
       omega
   obtain ⟨k3,k4⟩:=z6b (l:=(jC e l).2) (by omega) h (by omega)
   refine ⟨by simp only [List.length_cons];omega,fun x hx =>?_⟩
   rcases List.mem_cons.1 hx with rfl | hx
   ·exact ⟨l,h1,hb'⟩
   ·exact k4 x hx
theorem z6a:∀{es:List Arm} {l:Int},l≤6000→(measa es l).1=false→0≤l→∀a∈es,sV a.body∧a.vars.length≤16
 | [],l,_,_,_,a,ha=>by cases ha
 | b::es,l,h1,h,h0,a,ha=>by
  rw [dA] at h
  by_cases hv:16 < b.vars.length
  ·rw [if_pos hv] at h;cases h
  ·rw [if_neg hv] at h
   by_cases hb:(jC b.body l).1=true
   ·rw [if_pos hb] at h;cases h
   ·rw [if_neg hb] at h
    have hb':(jC b.body l).1=false:=by simpa using hb
    have k1:=mB b.body l hb'
    rcases List.mem_cons.1 ha with rfl | ha
    ·exact ⟨⟨l,h1,hb'⟩,by omega⟩
    ·exact z6a (l:=(jC b.body l).2) (by omega) h (by omega) a ha
theorem xT {e:Ex} (h:sV e):e.args.length≤6000∧(∀x∈e.args,sV x)∧∀a∈e.arms,sV a.body∧a.vars.length≤16:=by
 obtain ⟨l,h1,h⟩:=h
 rw [z2p] at h
 by_cases hl:l - 1 < 0
 ·rw [if_pos hl] at h;cases h
 ·rw [if_neg hl] at h
  cases hm:meass e.args (l - 1) with
  | mk b q =>
   rw [hm] at h
   cases b with
   | true=>cases h
   | false =>
    have k1:=z6b (es:=e.args) (l:=l - 1) (by omega) (by rw [hm]) (by omega)
    have k2:=meass_le e.args (l - 1) (by rw [hm]) (by omega)
    rw [hm] at k2
    simp only [tP] at h k2
    exact ⟨by omega,k1.2,z6a (by omega) h (by omega)⟩
theorem z5z:∀{fs:List Fun} {l:Int},tO fs l=false→l≤6000→∀f∈fs,sV f.body
 | [],_,_,_,_,h=>by cases h
 | g::fs,l,h,hl,f,hf=>by
  simp only [tO,Bool.or_eq_false_iff,decide_eq_false_iff_not] at h
  have h2:=mB g.body l h.1.2
  rcases List.mem_cons.1 hf with rfl | hf
  ·exact ⟨l,hl,h.1.2⟩
  ·exact z5z h.2 (by omega) f hf
theorem y0u {c:Core} (h:xL c=false) {f:Fun} (hf:f∈c.funs):sV f.body:=by
 simp only [xL,Bool.or_eq_false_iff] at h
 exact z5z h.2 (by omega) f hf
end Go.Sw

namespace Go.Sw
def REnv (Φ:Fz):Env→Option Addr→Prop
 | [],o=>o=none
 | (n,x)::env,o=>∃p c o',o=some p∧At Φ p (.string n::c++[.pointer o'])∧c.length=3∧RVal Φ c x∧REnv Φ env o'
theorem REnv.mono {Φ Ψ:Fz} (hl:Φ.Le Ψ):∀{env:Env} {o:Option Addr},REnv Φ env o→REnv Ψ env o
 | [],_,h=>h
 | (_,_)::_,_,⟨p,c,o',h1,h2,h3,h4,h5⟩=>⟨p,c,o',h1,h2.mono hl,h3,RVal.mono _ _ _ _ hl h4,REnv.mono hl h5⟩
def RGiven (Φ:Fz) (v:Value) (inp:List (Bs×Val)):Prop:=(∃b d,v=.map (some b)∧MapAt Φ b d∧MapRel (RVa RVal Φ) d inp)∨(v=.map none∧inp=[])
theorem RGiven.mono {Φ Ψ:Fz} (hl:Φ.Le Ψ) {v:Value} {inp:List (Bs×Val)} (h:RGiven Φ v inp):RGiven Ψ v inp:=by
 rcases h with ⟨b,d,h1,h2,h3⟩ | h
 ·exact .inl ⟨b,d,h1,h2.mono hl,h3.mono (RVa.mono RVal.mono hl)⟩
 ·exact .inr h
theorem RGiven.one {Φ:Fz} {v:Value} {inp:List (Bs×Val)} (h:RGiven Φ v inp):Value.oneCell' v=true:=by
 rcases h with ⟨b,d,h1,_⟩ | h
 ·subst h1;rfl
 ·rw [h.1];rfl
theorem RGiven.cells {Φ:Fz} {v:Value} {inp:List (Bs×Val)} (h:RGiven Φ v inp):v.cells=#[v]:=by
 rcases h with ⟨b,d,h1,_⟩ | h
 ·subst h1;rfl
 ·rw [h.1];rfl
theorem RVal.zero {Φ:Fz}:RVal Φ [.string sNo,.int .i64 0,.slice none 0 0] v0:=RVal.iff.2 ⟨_,rfl,⟨by decide,by decide⟩,SliceOf.nil 3⟩
section
variable {P:Program} {n:Nat} {E:List (Nat×Value)} {D:List Deferred} {a:Act} {Φ Ψ:Fz} {K K':List Res} {w:World}
theorem y7p {t kt et:TypeId} {x y:Operand} {ty:TypeId} {s:Bs} {v:Value} {inp:List (Bs×Val)} (hg:RGiven Φ v inp) (ht:Under P t (.map kt et)) (hk:Under P kt .string) (hz:ZeroT P et (.agg (List.toArray [.string sNo,.int .i64 0,.slice none 0 0])))
  (he:EnvR n E D a) (hm:Sees Φ K w) (hx:ev E x=some v) (hy:ev E y=some (.string s)):∃cs,RVal Φ cs ((zH inp s).getD v0)∧Ok P a (.lookup t x y false) ty w (.agg cs.toArray):=by
 rcases hg with ⟨b,d,rfl,h2,h3⟩ | ⟨rfl,rfl⟩
 ·have hl:=yD (P:=P) (ty:=ty) (w:=w) (ok:=false) ht hk hz he hm hx hy h2
  cases hd:yA d s with
  | none =>
   rw [hd] at hl
   rw [h3.none hd]
   exact ⟨_,RVal.zero,hl⟩
  | some u =>
   obtain ⟨q,hq,cs,hcs,hr⟩:=h3.get hd
   rw [hd] at hl
   rw [hq]
   subst hcs
   exact ⟨cs,hr,hl⟩
 ·exact ⟨_,RVal.zero,y9d (P:=P) (ty:=ty) (w:=w) (ok:=false) ht hk hz he hx hy⟩
theorem q5s {o:BinOp} {t t':TypeId} {x:Operand} {y:Operand} {p:Addr} {ty:TypeId} (ho:o=.neq) (he:EnvR n E D a) (hx:ev E x=some (.pointer (some p))) (hy:ev E y=some (.pointer none))
  (hb:∀w,(binOp .neq t (.pointer (some p)) (.pointer none)).run P w=.ok (.bool true) w):Ok P a (.binOp o t x y t') ty w (.bool true):=by
 subst ho;exact aO he hx hy rfl (hb w)
theorem q5r {o:BinOp} {t t':TypeId} {x:Operand} {y:Operand} {ty:TypeId} (ho:o=.neq) (he:EnvR n E D a) (hx:ev E x=some (.pointer none)) (hy:ev E y=some (.pointer none))
  (hb:∀w,(binOp .neq t (.pointer none) (.pointer none)).run P w=.ok (.bool false) w):Ok P a (.binOp o t x y t') ty w (.bool false):=by
 subst ho;exact aO he hx hy rfl (hb w)
end
section
variable {P:Program} {n:Nat} {E:List (Nat×Value)} {D:List Deferred} {a:Act} {Φ Ψ:Fz} {K K':List Res} {w:World}
variable {Kn:Value→World→Prop} {Qp:List PanicEntry→World→Prop} {dst:Option Tmp} {ty:TypeId} {pos:String} {aft:Array Edge} {g:Option (Nat×Bool)}
theorem j0y {t kt et:TypeId} {x y:Operand} {s:Bs} {v:Value} {inp:List (Bs×Val)} (hg:RGiven Φ v inp) (ht:Under P t (.map kt et)) (hk:Under P kt .string) (hz:ZeroT P et (.agg (List.toArray [.string sNo,.int .i64 0,.slice none 0 0])))
  (he:EnvR n E D a) (hm:Sees Φ K w) (hx:ev E x=some v) (hy:ev E y=some (.string s)) (k:∀cs,RVal Φ cs ((zH inp s).getD v0)→Kn (.agg cs.toArray) w):Oper.eff P ⟨dst,.lookup t x y false,ty,pos,aft,g⟩ a w Kn Qp:=by
 obtain ⟨cs,h1,h2⟩:=y7p (ty:=ty) hg ht hk hz he hm hx hy
 exact vN h2 (k cs h1)
end
def evX {α:Type} (r:Ev α):Except Unit (α×Nat):=match r with
 | .ok x g=>.ok (x,g)
 | _=>.error ()
theorem wJ {α:Type} {r:Ev α} {x:α×Nat} (h:evX r=.ok x):r=.ok x.1 x.2:=by
 cases r with
 | ok y g=>simp only [evX,Except.ok.injEq] at h;subst h;rfl
 | spent=>cases h
 | stuck=>cases h
theorem vK {α:Type} {r:Ev α} {c:Unit} (h:evX r=.error c) (hs:r≠.stuck):r=.spent:=by
 cases r with
 | ok y g=>cases h
 | spent=>rfl
 | stuck=>exact absurd rfl hs
theorem gQ {α:Type} {r:Ev α} {x:α} {g:Nat} {A:α×Nat→Prop} {B:Unit→Prop} (h:r=.ok x g) (hA:A (x,g)):Out (evX r) A B:=by subst h;exact hA
theorem mD {α:Type} {r:Ev α} {A:α×Nat→Prop} {B:Unit→Prop} (h:r=.spent) (hB:B ()):Out (evX r) A B:=by subst h;exact hB
theorem jT {α β:Type} {r:Ev α} {f:α→Nat→Ev β} (h:r.bind f≠.stuck):r≠.stuck:=by rintro rfl;exact h rfl
theorem y1c {α β:Type} {r:Ev α} {f:α→Nat→Ev β} {x:α} {g:Nat} (h:r.bind f≠.stuck) (hr:r=.ok x g):f x g≠.stuck:=by subst hr;exact h
theorem mA {α β:Type} {r:Ev α} {f:α→Nat→Ev β} {x:α} {g:Nat} (hr:r=.ok x g):r.bind f=f x g:=by subst hr;rfl
theorem mC {α β:Type} {r:Ev α} {f:α→Nat→Ev β} (hr:r=.spent):r.bind f=.spent:=by subst hr;rfl
def sB:Unit→List PanicEntry:=fun _=>[{ v:=.iface 160 (.agg (List.toArray [])),recovered:=false }]
abbrev stepsB (bs n:Nat):Res:=.blk bs (ob [.int .i64 ((n:Nat):Int)] 3)
abbrev runV (p:Addr) (mg:Value) (bs fuel:Nat):Value:=.agg (List.toArray [.pointer (some p),mg,.pointer (some ⟨bs,0,none⟩),.int .i64 ((fuel:Nat):Int)])
def z3o (T:Table):Prop:=∀n f,zH T.funs n=some f→f.params.length≤1000∧sV f.body
def cI (P:Program) (T:Table) (inp:List (Bs×Val)) (g:Nat):Prop :=
 ∀{Φ:Fz} {K:List Res} {w:World} {p:Addr} {d:List Value} {e:Ex} {env:Env} {o:Option Addr} {mg:Value} {bs fuel:Nat},RTable Φ p T→RGiven Φ mg inp→REx Φ d e→REnv Φ env o→sV e→g≤fuel→fuel≤1000000 →
  jJ ⟨T.funs,inp⟩ g e env≠.stuck→Mem Φ (stepsB bs (fuel - g)::K) w →
  Calls P 95 (List.toArray [runV p mg bs fuel,.agg d.toArray,.pointer o]) w (fun ee w'=>Out (evX (jJ ⟨T.funs,inp⟩ g e env))
   (fun x=>∃y:Fz×List Value,ee=.returned (.agg y.2.toArray)∧(Φ.Le y.1∧RVal y.1 y.2 x.1)∧Mem y.1 (stepsB bs (fuel - x.2)::K) w')
   (fun c=>ee=.panicked (sB c)∧Mem Φ (stepsB bs (fuel+1)::K) w'))
def j4j (P:Program) (T:Table) (inp:List (Bs×Val)) (g:Nat):Prop :=
 ∀{Φ:Fz} {K:List Res} {w:World} {p:Addr} {l:List Ex} {env:Env} {o:Option Addr} {s mg:Value} {bs fuel:Nat},RTable Φ p T→RGiven Φ mg inp→SliceOf REx Φ 5 s l→REnv Φ env o→(∀x∈l,sV x)→l.length≤6000→g≤fuel→fuel≤1000000 →
  xC (jJ ⟨T.funs,inp⟩) env l g≠.stuck→Mem Φ (stepsB bs (fuel - g)::K) w →
  Calls P 135 (List.toArray [runV p mg bs fuel,s,.pointer o]) w (fun ee w'=>Out (evX (xC (jJ ⟨T.funs,inp⟩) env l g))
   (fun x=>∃y:Fz×Value,ee=.returned y.2∧(Φ.Le y.1∧SliceOf RVal y.1 3 y.2 x.1)∧Mem y.1 (stepsB bs (fuel - x.2)::K) w')
   (fun c=>ee=.panicked (sB c)∧Mem Φ (stepsB bs (fuel+1)::K) w'))
def y9g (P:Program) (T:Table) (inp:List (Bs×Val)) (g:Nat):Prop :=
 ∀{Φ:Fz} {K:List Res} {w:World} {p:Addr} {d:List Value} {f:Fun} {l:List Val} {s mg:Value} {bs fuel:Nat},RTable Φ p T→RGiven Φ mg inp→RFun Φ d f→SliceOf RVal Φ 3 s l→f.params.length≤1000→sV f.body→g≤fuel→fuel≤1000000 →
  pI (jJ ⟨T.funs,inp⟩) f l g≠.stuck→Mem Φ (stepsB bs (fuel - g)::K) w →
  Calls P 58 (List.toArray [runV p mg bs fuel,.agg d.toArray,s]) w (fun ee w'=>Out (evX (pI (jJ ⟨T.funs,inp⟩) f l g))
   (fun x=>∃y:Fz×List Value,ee=.returned (.agg y.2.toArray)∧(Φ.Le y.1∧RVal y.1 y.2 x.1)∧Mem y.1 (stepsB bs (fuel - x.2)::K) w')
   (fun c=>ee=.panicked (sB c)∧Mem Φ (stepsB bs (fuel+1)::K) w'))
theorem q8r {α:Type} (r:Ev (List α)):r=r.bind fun vs g=>.ok ([]++vs) g:=by cases r <;> rfl
theorem y7f {ev:Nat→Ex→Env→Ev Val} {env:Env} {x:Ex} {rest:List Ex} {g1 g2:Nat} {z:Val} {xs:List Val} (hv:ev g1 x env=.ok z g2) :
  (xC ev env (x::rest) g1).bind (fun vs g=>.ok (xs++vs) g)=(xC ev env rest g2).bind fun vs g=>.ok ((xs++[z])++vs) g:=by
 simp only [xC]
 rw [hv]
 simp only [Ev.bind]
 cases xC ev env rest g2 <;> simp
theorem y7g {ev:Nat→Ex→Env→Ev Val} {env:Env} {x:Ex} {rest:List Ex} {g1:Nat} {xs:List Val} (hv:ev g1 x env=.spent) :
  (xC ev env (x::rest) g1).bind (fun vs g=>.ok (xs++vs) g)=.spent:=by
 simp only [xC]
 rw [hv];rfl
theorem q0j {ev:Nat→Ex→Env→Ev Val} {env:Env} {g1:Nat} {xs:List Val}:(xC ev env [] g1).bind (fun vs g=>.ok (xs++vs) g)=.ok xs g1:=by
 simp [xC,Ev.bind]
theorem q4a {ev:Nat→Ex→Env→Ev Val} {f:Fun} {l:List Val} {g:Nat} (h:pI ev f l g≠.stuck):∃env,kL (f.params.map Param.name) l []=some env:=by
 unfold pI mJ at h
 cases hb:kL (f.params.map Param.name) l [] with
 | none=>rw [hb] at h;exact absurd rfl h
 | some env=>exact ⟨env,rfl⟩
theorem z3p:∀{ns:List Bs} {az:List Val} {env env':Env} {i:Nat},kL (ns.drop i) (az.drop i) env=some env'→i < ns.length→i < az.length
 | ns,az,env,env',i,h,hi=>by
  by_cases ha:i < az.length
  ·exact ha
  ·rw [List.drop_eq_getElem_cons hi,zE ha] at h
   cases h
theorem j8l {l:List Int} {i:Nat} {x:Int} (h:l[i]? = some x):(uY l)[i * 1]? = some (.int .i64 x):=by
 simp [uY,h]
theorem yI (l:List Int) (x:Int):aK (l++[x])=IntKind.i64.wrap (aK l+x):=by simp [aK]
theorem z5d {α:Type} {l:List α} {i:Nat} {x:α} (h:l[i]? = some x):l.take (i+1)=l.take i++[x]:=by
 rw [List.take_add_one,h];rfl
theorem q3e {α:Type} {l:List α} {i:Nat} (h:¬i < l.length):l.take i=l:=List.take_of_length_le (by omega)
end Go.Sw

namespace Go.Sw
section
variable {ev:Nat→Ex→Env→Ev Val} {C:Ctx} {g:Nat} {e:Ex} {env:Env}
theorem x1b (h:e.kind=1):xE ev C g e env=.ok (z1h e.num) g:=by unfold xE;simp [h]
theorem q3b (h:e.kind=2):xE ev C g e env=.ok ((zH env e.name).getD v0) g:=by unfold xE;simp [h]
theorem x1a (h:e.kind=3):xE ev C g e env=.ok ((zH C.inp e.name).getD v0) g:=by unfold xE;simp [h]
theorem y2j (h:e.kind=4):xE ev C g e env=(xC ev env e.args g).bind fun l g=>.ok (.mk e.name 0 l) g:=by unfold xE;simp [h]
theorem uT {f:Fun} (h:e.kind=5) (hf:zH C.funs e.name=some f):xE ev C g e env=(xC ev env e.args g).bind fun l g=>pI ev f l g:=by unfold xE;simp [h,hf]
theorem q7i (h:e.kind=5) (hf:zH C.funs e.name=none):xE ev C g e env=.stuck:=by unfold xE;simp [h,hf]
theorem j3t (h:e.kind=6) (hns:xE ev C g e env≠.stuck):2≤e.args.length:=by
 unfold xE at hns
 simp only [h] at hns
 match ha:e.args with
 | []=>rw [ha] at hns;simp at hns
 | [a]=>rw [ha] at hns;simp at hns
 | a::b::l=>simp
theorem aE {a b:Ex} (h:e.kind=6) (h0:e.args[0]? = some a) (h1:e.args[1]? = some b):xE ev C g e env=(ev g a env).bind fun x g=>ev g b ((e.name,x)::env):=by
 unfold xE
 simp only [h]
 match ha:e.args with
 | []=>rw [ha] at h0;simp at h0
 | [x]=>rw [ha] at h1;simp at h1
 | x::y::l =>
  rw [ha] at h0 h1
  simp only [List.getElem?_cons_zero,List.getElem?_cons_succ,Option.some.injEq] at h0 h1
  subst h0;subst h1;simp
def y3s (ev:Nat→Ex→Env→Ev Val) (arms:List Arm) (env:Env) (x:Val) (g:Nat):Ev Val:=match xQ arms x.con with
 | none=>.stuck
 | some m=>mJ ev m.vars x.args env m.body g
theorem q7h (h:e.kind=7) (hns:xE ev C g e env≠.stuck):1≤e.args.length:=by
 unfold xE at hns
 simp only [h] at hns
 match ha:e.args with
 | []=>rw [ha] at hns;simp at hns
 | a::l=>simp
theorem mP {a:Ex} (h:e.kind=7) (h0:e.args[0]? = some a):xE ev C g e env=(ev g a env).bind fun x g=>y3s ev e.arms env x g:=by
 unfold xE
 simp only [h]
 match ha:e.args with
 | []=>rw [ha] at h0;simp at h0
 | x::l =>
  rw [ha] at h0
  simp only [List.getElem?_cons_zero,Option.some.injEq] at h0
  subst h0;simp [y3s];rfl
def opOf (nm:Bs) (l:List Val) (g:Nat):Ev Val:=match l with
 | a::b::_=>if opT nm=sNo then .stuck else .ok (jK nm a.num b.num) g
 | _=>.stuck
theorem y8z (h:e.kind=8):xE ev C g e env=(xC ev env e.args g).bind fun l g=>opOf e.name l g:=by unfold xE;simp [h];rfl
theorem j9k {nm:Bs} {l:List Val} (h:opOf nm l g≠.stuck):2≤l.length:=by
 match l with
 | []=>exact absurd rfl h
 | [a]=>exact absurd rfl h
 | a::b::l=>simp
theorem opOf_eq {nm:Bs} {l:List Val} {a b:Val} (h0:l[0]? = some a) (h1:l[1]? = some b) (hns:opOf nm l g≠.stuck):opT nm≠sNo∧opOf nm l g=.ok (jK nm a.num b.num) g:=by
 match l with
 | []=>simp at h0
 | [x]=>simp at h1
 | x::y::l =>
  simp only [List.getElem?_cons_zero,List.getElem?_cons_succ,Option.some.injEq] at h0 h1
  subst h0;subst h1
  by_cases h:opT nm=sNo
  ·exact absurd (if_pos h) hns
  ·exact ⟨h,if_neg h⟩
theorem j3u (h1:e.kind≠1) (h2:e.kind≠2) (h3:e.kind≠3) (h4:e.kind≠4) (h5:e.kind≠5) (h6:e.kind≠6) (h7:e.kind≠7) (h8:e.kind≠8):xE ev C g e env=.stuck:=by
 unfold xE;simp [*]
theorem z8g {arms:List Arm} {x:Val} (h:xQ arms x.con=none):y3s ev arms env x g=.stuck:=by unfold y3s;rw [h]
theorem nN {arms:List Arm} {x:Val} {m:Arm} (h:xQ arms x.con=some m):y3s ev arms env x g=mJ ev m.vars x.args env m.body g:=by unfold y3s;rw [h]
theorem z8o {ns:List Bs} {az:List Val} {b:Ex} (h:mJ ev ns az env b g≠.stuck):∃en,kL ns az env=some en:=by
 unfold mJ at h
 cases hb:kL ns az env with
 | none=>rw [hb] at h;exact absurd rfl h
 | some en=>exact ⟨en,rfl⟩
theorem uF {ns:List Bs} {az:List Val} {b:Ex} {en:Env} (h:kL ns az env=some en):mJ ev ns az env b g=ev g b en:=by unfold mJ;rw [h]
theorem y3x {az:List Val} {en:Env}:kL [] az en=some en:=by cases az <;> rfl
end
theorem y7h {C:Ctx} {env:Env} {l:List Ex} {g r:Nat} {vs:List Val} (h:xC (jJ C) env l g=.ok vs r):r≤g:=gN (jB C) h
end Go.Sw

namespace Go.Sw
open Go.Proofs.Tryz
open Go.Proofs
theorem mixed:prog.follows .mixedOrders=true:=by kernel_rfl
theorem fo_27_0:zK prog 27 0 0:=zD runUnderlying27 rfl sizeOf22 (by decide) rfl
theorem fo_27_1:zK prog 27 1 1:=zD runUnderlying27 rfl sizeOf23 (by decide) rfl
theorem fo_27_2:zK prog 27 2 2:=zD runUnderlying27 rfl sizeOf24 (by decide) rfl
theorem fo_27_3:zK prog 27 3 3:=zD runUnderlying27 rfl sizeOf25 (by decide) rfl
theorem fo_53_0:zK prog 53 0 0:=zD runUnderlying53 rfl sizeOf51 (by decide) rfl
theorem fo_53_1:zK prog 53 1 1:=zD runUnderlying53 rfl sizeOf3 (by decide) rfl
theorem fo_58_0:zK prog 58 0 0:=zD runUnderlying58 rfl sizeOf9 (by decide) rfl
theorem fo_58_1:zK prog 58 1 1:=zD runUnderlying58 rfl sizeOf3 (by decide) rfl
theorem fo_58_2:zK prog 58 2 2:=zD runUnderlying58 rfl sizeOf56 (by decide) rfl
theorem fo_60_0:zK prog 60 0 0:=zD runUnderlying60 rfl sizeOf9 (by decide) rfl
theorem fo_60_1:zK prog 60 1 1:=zD runUnderlying60 rfl sizeOf58 (by decide) rfl
theorem q0x:zK prog 110 0 0:=zD runUnderlying110 rfl sizeOf3 (by decide) rfl
theorem j5w:zK prog 110 1 1:=zD runUnderlying110 rfl sizeOf3 (by decide) rfl
theorem tD:zK prog 110 2 2:=zD runUnderlying110 rfl sizeOf9 (by decide) rfl
theorem j5x:zK prog 110 3 3:=zD runUnderlying110 rfl sizeOf107 (by decide) rfl
theorem j5y:zK prog 110 4 4:=zD runUnderlying110 rfl sizeOf108 (by decide) rfl
theorem q0y:zK prog 112 0 0:=zD runUnderlying112 rfl sizeOf9 (by decide) rfl
theorem j5z:zK prog 112 1 1:=zD runUnderlying112 rfl sizeOf23 (by decide) rfl
theorem j6a:zK prog 112 2 2:=zD runUnderlying112 rfl sizeOf9 (by decide) rfl
theorem j6b:zK prog 112 3 3:=zD runUnderlying112 rfl sizeOf110 (by decide) rfl
theorem fo_36_0:zK prog 36 0 0:=zD runUnderlying36 rfl sizeOf9 (by decide) rfl
theorem fo_36_1:zK prog 36 1 1:=zD runUnderlying36 rfl sizeOf9 (by decide) rfl
theorem j5s:zK prog 105 0 0:=zD runUnderlying105 rfl sizeOf96 (by decide) rfl
theorem j5t:zK prog 105 1 1:=zD runUnderlying105 rfl sizeOf100 (by decide) rfl
theorem j5u:zK prog 105 2 2:=zD runUnderlying105 rfl sizeOf102 (by decide) rfl
theorem j5v:zK prog 105 3 3:=zD runUnderlying105 rfl sizeOf3 (by decide) rfl
theorem j6c:zK prog 117 0 0:=zD runUnderlying117 rfl sizeOf27 (by decide) rfl
theorem j6d:zK prog 117 1 4:=zD runUnderlying117 rfl sizeOf113 (by decide) rfl
theorem j6e:zK prog 117 2 5:=zD runUnderlying117 rfl sizeOf114 (by decide) rfl
theorem j6f:zK prog 117 3 6:=zD runUnderlying117 rfl sizeOf115 (by decide) rfl
theorem j6g:zK prog 117 4 7:=zD runUnderlying117 rfl sizeOf70 (by decide) rfl
theorem j7f:zK prog 324 0 0:=zD runUnderlying324 rfl sizeOf322 (by decide) rfl
theorem j7g:zK prog 324 1 1:=zD runUnderlying324 rfl sizeOf237 (by decide) rfl
theorem j6h:zK prog 126 0 0:=zD runUnderlying126 rfl sizeOf9 (by decide) rfl
theorem j6i:zK prog 126 1 1:=zD runUnderlying126 rfl sizeOf124 (by decide) rfl
theorem j6j:zK prog 128 0 0:=zD runUnderlying128 rfl sizeOf9 (by decide) rfl
theorem j6k:zK prog 128 1 1:=zD runUnderlying128 rfl sizeOf25 (by decide) rfl
theorem j6m:zK prog 164 0 0:=zD runUnderlying164 rfl sizeOf9 (by decide) rfl
theorem j6n:zK prog 164 1 1:=zD runUnderlying164 rfl sizeOf58 (by decide) rfl
theorem j6o:zK prog 164 2 4:=zD runUnderlying164 rfl sizeOf162 (by decide) rfl
theorem j6s:zK prog 201 0 0:=zD runUnderlying201 rfl sizeOf9 (by decide) rfl
theorem j6t:zK prog 201 1 1:=zD runUnderlying201 rfl sizeOf128 (by decide) rfl
theorem j6p:zK prog 174 0 0:=zD runUnderlying174 rfl sizeOf9 (by decide) rfl
theorem j6q:zK prog 174 1 1:=zD runUnderlying174 rfl sizeOf25 (by decide) rfl
theorem j6r:zK prog 174 2 2:=zD runUnderlying174 rfl sizeOf110 (by decide) rfl
theorem j6v:zK prog 257 1 1:=zD runUnderlying257 rfl sizeOf29 (by decide) rfl
theorem j6w:zK prog 261 0 0:=zD runUnderlying261 rfl sizeOf3 (by decide) rfl
theorem j6y:zK prog 261 2 2:=zD runUnderlying261 rfl sizeOf9 (by decide) rfl
theorem j7a:zK prog 285 0 0:=zD runUnderlying285 rfl sizeOf9 (by decide) rfl
theorem j7b:zK prog 285 1 1:=zD runUnderlying285 rfl sizeOf3 (by decide) rfl
theorem j7c:zK prog 289 0 0:=zD runUnderlying289 rfl sizeOf285 (by decide) rfl
theorem j7d:zK prog 289 1 2:=zD runUnderlying289 rfl sizeOf286 (by decide) rfl
theorem j7e:zK prog 289 2 3:=zD runUnderlying289 rfl sizeOf287 (by decide) rfl
set_option maxRecDepth 20000 in
theorem rt_22:RowT prog 22 126 2 40:=⟨underlying22,⟨_,_,Tryz.type126,rfl,rfl,rfl,rfl⟩,by decide,by decide⟩
set_option maxRecDepth 20000 in
theorem pS:RowT prog 25 9 1 16:=⟨underlying25,⟨_,_,Tryz.type9,rfl,rfl,rfl,rfl⟩,by decide,by decide⟩
set_option maxRecDepth 20000 in
theorem rt_51:RowT prog 51 60 4 64:=⟨underlying51,⟨_,_,Tryz.type60,rfl,rfl,rfl,rfl⟩,by decide,by decide⟩
set_option maxRecDepth 20000 in
theorem kQ:RowT prog 56 58 3 48:=⟨underlying56,⟨_,_,Tryz.type58,rfl,rfl,rfl,rfl⟩,by decide,by decide⟩
set_option maxRecDepth 20000 in
theorem wO:RowT prog 84 3 1 8:=⟨underlying84,⟨_,_,Tryz.type3,rfl,rfl,rfl,rfl⟩,by decide,by decide⟩
set_option maxRecDepth 20000 in
theorem rt_287:RowT prog 287 303 2 16:=⟨underlying287,⟨_,_,Tryz.type303,rfl,rfl,rfl,rfl⟩,by decide,by decide⟩
end Go.Sw

namespace Go.Sw
section
variable {P:Program} {n m:Nat} {E:List (Nat×Value)} {D:List Deferred} {a:Act} {w:World} {ops:Array Oper} {rest:List Oper} {Q:Exit→Act→World→Prop} {r:Option Nat} {d:Nat} {v:Value} {op:Op} {ty:TypeId} {pos:String} {aft:Array Edge}
theorem z6l {o:Oper} {K:Act→World→Prop} (hop:∀c,o.op≠.defer c)
  (h:Oper.eff P o a w (fun v w'=>K (a.put o.dst v) w') (fun c w'=>Q (.panic c) a w')):o.wpIn (FO r) m P a w K Q:=by
 refine ⟨fun f _=>FO.fn f,?_⟩
 rw [Oper.semAt_plain _ _ _ hop]
 unfold Oper.eff at h
 generalize (execOp a.eval o).run P w=q at *
 cases q with
 | ok x w' =>
  cases x <;> simp only [vZ] at h <;> simp only [Oper.uponIn]
  case value=>exact h
  case skip=>exact h
  case enter f args=>exact ⟨fun hd=>(FO.depth hd).elim,FO.calls (h.mono fun e w'' he=>by cases e <;> first | exact he | exact he.elim)⟩
 | halt x w'=>cases x <;> simp only [vZ] at h;simp only [Oper.uponIn];exact h
theorem z9v {o:Oper} (he:EnvR n E D a) (hd:o.dst=some d) (hlt:Nat.blt d n=true) (hg:o.guard=none) (hop:∀c,o.op≠.defer c)
  (h:Oper.eff P o a w (fun v w'=>∀a,EnvR n ((d,v)::E) D a→wpListIn (FO r) m P ops Q rest a w') (fun _ _=>False)):wpListIn (FO r) m P ops Q (o::rest) a w:=by
 refine wpListIn_plain hg fun L hL=>z6l hop (jZ h (fun v w' hv=>hL _ _ ?_) (fun c w' hc=>hc.elim))
 rw [hd];exact hv _ (he.put hlt)
theorem y7u {o:Oper} (he:EnvR n E D a) (hd:o.dst=none) (hg:o.guard=none) (hop:∀c,o.op≠.defer c)
  (h:Oper.eff P o a w (fun _ w'=>∀a,EnvR n E D a→wpListIn (FO r) m P ops Q rest a w') (fun _ _=>False)):wpListIn (FO r) m P ops Q (o::rest) a w:=by
 refine wpListIn_plain hg fun L hL=>z6l hop (jZ h (fun v w' hv=>hL _ _ ?_) (fun c w' hc=>hc.elim))
 rw [hd];exact hv _ he.put_none
theorem yO (he:EnvR n E D a) (hop:∀c,op≠.defer c) (ho:Ok P a op ty w v) (hd:Nat.blt d n=true) (k:∀a,EnvR n ((d,v)::E) D a→wpListIn (FO r) m P ops Q rest a w) :
  wpListIn (FO r) m P ops Q (⟨some d,op,ty,pos,aft,none⟩::rest) a w :=
 z9v he rfl hd rfl hop (vN ho k)
theorem xH {id:Nat} {l:List Oper} (h:wpListIn (FO none) 3 P l.toArray Q l a w):(Code.region id l.toArray false).wp P Q a w:=wpIn_wide.1 (wpIn_region_lit h)
theorem z9w {y x:Operand} {ts:Array TypeId} {l:Nat} {J:World→Prop} (he:EnvR n E D a) (hlt:Nat.blt d n=true) (hy:ev E y=some (.func (.yield l) #[] #[])) (hx:ev E x=some v)
  (hr:YieldAt Fence.wide 2 P l #[v] w (fun e w'=>e=.returned (.bool true)∧J w')) (k:∀w',J w'→∀a,EnvR n ((d,.bool true)::E) D a→wpListIn (FO none) 3 P ops Q rest a w') :
  wpListIn (FO none) 3 P ops Q (⟨some d,.call { callee:=.value y,args:=#[x],argTypes:=ts },ty,pos,aft,none⟩::rest) a w:=by
 obtain ⟨fn,tmps,assign,body,h1,h2⟩:=hr
 refine wpListIn_plain rfl fun L hL=>⟨fun f _=>trivial,?_⟩
 rw [Oper.semAt_plain _ _ _ (by intro c h;cases h)]
 have h3:(execOp a.eval ⟨some d,.call { callee:=.value y,args:=#[x],argTypes:=ts },ty,pos,aft,none⟩).run P w=.ok (.round l fn tmps assign body) w:=by
  simp only [execOp,resolve,Sem.run_bind,List.map_toArray,List.map_cons,List.map_nil,he.ev hx,he.ev hy,Deferred.ofValue]
  simp [invoke,Sem.run_bind,Result.andThen,h1]
 rw [h3,Oper.uponIn_round]
 refine ⟨fun hd=>(by cases hd),h2.mono fun e w' he' =>?_⟩
 obtain ⟨rfl,hJ⟩:=he'
 exact hL _ _ (k _ hJ _ (he.put hlt))
end
section
variable {P:Program} {Φ Ψ:Fz} {K:List Res} {w:World}
theorem Mem.putObj {i l:Nat} {o o':Obj} (hm:Mem Φ K w) (hk:qJ K i=some (.blk l o)):Mem Φ (wK K i (.blk l o')) (w.putObj l o'):=by
 have hb:l < w.heap.size:=(Array.getElem?_eq_some_iff.1 (hm.own _ (qH hk))).1
 exact hm.upd hk rfl rfl (fun c hc hne=>World.putObj_heap_other (fun e=>hne (by simp [Res.foot,e]))) (World.putObj_heap_same hb) (.inl rfl)
theorem q2s {β γ:Type} {l n:Nat} {r:Loop} {tmps:Array Value} {E:List (Nat×Value)} {E1:β→List (Nat×Value)} {K1:β→List Res} {KO:γ→List Res} (hm:Mem Φ (.blk l (.loop r)::K) w) (hst:r.state=.ready) (hpd:r.pending=none)
  (he:EnvR n E [] ⟨tmps,[]⟩)
  (hA:∀a,EnvR n E [] a→r.assign.wpIn (FO (some l)) 2 P (Exit.then (fun a1 w1=>∃y,EnvR n (E1 y) [] a1∧Mem Φ (.blk l (.loop r)::K1 y) w1) (fun _ _ _=>False)) a w)
  (hB:∀y a w,EnvR n (E1 y) [] a→Mem Φ (.blk l (.loop { r with state:=.busy })::K1 y) w→r.body.wpIn (FO (some l)) 2 P (fun e _ w=>e=.normal∧∃z,Mem Φ (.blk l (.loop { r with state:=.busy })::KO z) w) a w) :
  RoundIn Fence.wide 2 P l r.fn tmps r.assign r.body w (fun e w'=>e=.returned (.bool true)∧∃z,Mem Φ (.blk l (.loop r)::KO z) w'):=by
 refine roundIn_of_wpIn trivial (Code.wpIn_mono (fun e a1 w1 h =>?_) (hA _ he))
 cases e with
 | normal =>
  obtain ⟨y,h1,h2⟩:=h
  have hl:w1.heap[l]? = some (.loop r):=h2.own _ List.mem_cons_self
  refine ⟨_,run_beginRound hl hst,?_⟩
  have h3:=h2.putObj (i:=0) (o':=.loop { r with state:=.busy }) rfl
  refine Code.wpIn_mono (fun e a2 w2 h =>?_) (hB y _ _ h1 h3)
  obtain ⟨rfl,z,h4⟩:=h
  have hl2:w2.heap[l]? = some (.loop { r with state:=.busy }):=h4.own _ List.mem_cons_self
  refine ⟨_,_,run_endRound none hl2,rfl,z,?_⟩
  have h5:=h4.putObj (i:=0) (o':=.loop { ({ r with state:=.busy }:Loop) with state:=.ready,pending:=none }) rfl
  have h6:({ ({ r with state:=.busy }:Loop) with state:=.ready,pending:=none }:Loop)=r:=by cases r;simp only at hst hpd;subst hst;subst hpd;rfl
  simp only [wK,h6] at h5;simpa [h6] using h5
 | exit id=>exact h.elim
 | goto l=>exact h.elim
 | ret=>exact h.elim
 | panic c=>exact h.elim
 | outgrown=>exact h.elim
theorem z3m {β δ:Type} {n gf:Nat} {E:List (Nat×Value)} {Dd:List Deferred} {a:Act} {g:Operand} {ps:Array Tmp} {assign body:Code} {Q:Exit→Act→World→Prop} {fs cs:List Value} {F1:β→Fz} {KO:β→List Res} {KE:δ→List Res} {G:β→Prop} {B:δ→List PanicEntry→Prop}
  (he:EnvR n E Dd a) (hm:Mem Φ K w) (hg:ev E g=some (.func (.func gf) fs.toArray cs.toArray)) (hf:∀args w,(callFunc gf args).run P w=.ok (.enter gf args) w)
  (hc:∀Dk l r w,r.params=ps→r.assign=assign→r.body=body→r.state=.ready→r.pending=none→EnvR n E [] ⟨r.tmps,[]⟩→Mem Φ (.blk l (.loop r)::.blk Dk (.deferred (some []))::K) w →
   Calls P gf (fs++[Value.func (.yield l) #[] #[]]++cs).toArray w (fun e w'=>(∃v y,e=.returned v∧G y∧Mem (F1 y) (.blk l (.loop r)::.blk Dk (.deferred (some []))::KO y) w')∨(∃c z,e=.panicked c∧B z c∧Mem Φ (.blk Dk (.deferred (some []))::KE z) w')))
  (kn:∀Dk y a w,G y→EnvR n E ({ target:=.collected Dk,args:=#[] }::Dd) a→Mem (F1 y) (.blk Dk (.deferred (some []))::KO y) w→Q .normal a w)
  (kp:∀Dk z c a w,B z c→EnvR n E ({ target:=.collected Dk,args:=#[] }::Dd) a→Mem Φ (.blk Dk (.deferred (some []))::KE z) w→Q (.panic c) a w):(Code.rangeFunc g ps assign body).wp P Q a w:=by
 refine (wpIn_wide (n:=3)).1 (wpIn_rangeFunc fun fn _ =>?_)
 generalize hw1:((w.alloc (.deferred (some []))).alloc (.loop { state:=.ready,pending:=none,fn,tmps:=a.tmps,params:=ps,assign,body,defers:=w.heap.size }))=w1
 have hm1:Mem Φ (.blk (w.heap.size+1) (.loop { state:=.ready,pending:=none,fn,tmps:=a.tmps,params:=ps,assign,body,defers:=w.heap.size })::.blk w.heap.size (.deferred (some []))::K) w1:=by
  have h1:=hm.push (.deferred (some []))
  have h2:=h1.push (.loop { state:=.ready,pending:=none,fn,tmps:=a.tmps,params:=ps,assign,body,defers:=w.heap.size })
  have h3:({ w with heap:=w.heap.push (.deferred (some [])) }:World).heap.size=w.heap.size+1:=Array.size_push _
  rw [h3] at h2
  rw [← hw1];exact h2
 have hE:EnvR n E ({ target:=.collected w.heap.size,args:=#[] }::Dd) { a with defers:=[{ target:=.collected w.heap.size,args:=#[] }]++a.defers }:=⟨he.size,he.env,by simp [he.defs]⟩
 have hcall:=hc w.heap.size (w.heap.size+1) { state:=.ready,pending:=none,fn,tmps:=a.tmps,params:=ps,assign,body,defers:=w.heap.size } w1 rfl rfl rfl rfl rfl ⟨he.size,he.env,rfl⟩ hm1
 refine ⟨w.heap.size+1,[{ target:=.collected w.heap.size,args:=#[] }],w1,{ target:=.fn (.func gf) cs.toArray,args:=(fs++[Value.func (.yield (w.heap.size+1)) #[] #[]]).toArray },w1,gf,(fs++[Value.func (.yield (w.heap.size+1)) #[] #[]]++cs).toArray,w1,?_,?_,fun f' _=>trivial,?_,fun hd=>(by cases hd),?_⟩
 ·rw [show Fence.wide.round=none from rfl,run_enterLoop_outer,hw1]
 ·have h1:=he.ev hg
  have h2:a.eval (.const (.func (.yield (w.heap.size+1)) #[] #[]))=.func (.yield (w.heap.size+1)) #[] #[]:=rfl
  simp only [resolve,Sem.run_bind,h1,h2,List.map_toArray,List.map_cons,List.map_nil]
  simp [Deferred.ofValue]
 ·have:=hf (fs++[Value.func (.yield (w.heap.size+1)) #[] #[]]++cs).toArray w1
  simp only [invoke]
  simpa using this
 ·refine callsIn_wide.2 (hcall.mono fun e w3 h =>?_)
  rcases h with ⟨v,y,rfl,hG,hm3⟩ | ⟨c,z,rfl,hB,hm3⟩
  ·have hl:w3.heap[w.heap.size+1]? = _:=hm3.own _ List.mem_cons_self
   refine ⟨_,_,run_endLoop hl (by intro h;cases h),?_⟩
   exact kn _ y _ _ hG hE (hm3.putObj (i:=0) rfl).tail
  ·exact kp _ z c _ _ hB hE hm3
def pZ (P:Program) (fn:Func) (tmps:Array Value) (R:Ending→World→Prop) (ds:List Deferred) (u:FrameMode) (w:World):Prop :=
 ∀(fr:Frame) (cs:List Frame),fr.mode=u→fr.defers=ds→fr.tmps=tmps→P.funcs[fr.fn]? = some fn→fr.kind=.normal →
  ∃e w' fr',R e w'∧Comes P (lone fr cs w) (lone fr' cs w') e∧fr'.fn=fr.fn∧fr'.leaving P w' e
theorem cZ {fn:Func} {tmps:Array Value} {R:Ending→World→Prop} {ds:List Deferred} {u:FrameMode} (h:Leaves P fn tmps R ds u w):pZ P fn tmps R ds u w :=
 fun fr cs h1 h2 h3 h4 h5=>leaves_steps ds u w fr cs h1 h2 h3 h4 h5 h
theorem mY {fn:Func} {tmps:Array Value} {R:Ending→World→Prop} {Dk:Nat} {ds:List Deferred} {u:FrameMode} (hu:u≠.run) (hw:w.heap[Dk]? = some (.deferred (some [])))
  (h:pZ P fn tmps R ds u (w.putObj Dk (.deferred none))):pZ P fn tmps R ({ target:=.collected Dk,args:=#[] }::ds) u w:=by
 intro fr cs h1 h2 h3 h4 h5
 have hs:=step_collected (P:=P) (cs:=cs) (h1▸hu) h2 rfl (run_takeDeferred hw)
 obtain ⟨e,w',fr',hR,hc,hfn,hl⟩:=h { fr with defers:=[]++ds } cs h1 rfl h3 h4 h5
 exact ⟨e,w',fr',hR,Comes.of_steps (.one hs) hc,hfn,hl⟩
def mK (P:Program) (fn:Func) (R:Ending→World→Prop):Exit→Act→World→Prop
 | .normal,a,w | .ret,a,w=>pZ P fn a.tmps R a.defers .returning w
 | .panic chain,a,w=>pZ P fn a.tmps R a.defers (.panicking chain) w
 | .outgrown,_,w=>R .outgrown w
 | _,_,_=>False
theorem y3e {f:FuncId} {fn:Func} {c:Code} {args:Array Value} {w:World} {R:Ending→World→Prop}
  (hf:P.funcs[f]? = some fn) (hb:fn.body=some c)
  (h:c.wp P (mK P fn R) { tmps:=args++Array.replicate (fn.ntmps - args.size) undef,defers:=[] } w):Calls P f args w R:=by
 intro cs
 let b:Frame:={ (default:Frame) with fn:=f,kind:=.normal }
 have henter:Frame.enter P f args .normal =
   b.at { tmps:=args++Array.replicate (fn.ntmps - args.size) undef,defers:=[] } [.code c]:=by
  simp [Frame.enter,Frame.at,hf,hb,b]
 obtain ⟨e,a',w',hq,harr⟩:=h b [] cs
 rw [← henter] at harr
 cases e with
 | normal =>
  obtain ⟨e',w'',fr',hR,hs,hfn,hl⟩:=hq { b.at a' [] with mode:=.returning } cs rfl rfl rfl hf rfl
  exact ⟨e',w'',fr',hR,Comes.of_steps (Steps.trans harr (.one step_end)) hs,hfn,hl⟩
 | ret =>
  obtain ⟨todo,hs₀⟩:=harr
  obtain ⟨e',w'',fr',hR,hs,hfn,hl⟩:=hq { b.at a' todo with mode:=.returning } cs rfl rfl rfl hf rfl
  exact ⟨e',w'',fr',hR,Comes.of_steps hs₀ hs,hfn,hl⟩
 | panic chain =>
  obtain ⟨todo,hs₀⟩:=harr
  obtain ⟨e',w'',fr',hR,hs,hfn,hl⟩:=hq { b.at a' todo with mode:=.panicking chain } cs rfl rfl rfl hf rfl
  exact ⟨e',w'',fr',hR,Comes.of_steps hs₀ hs,hfn,hl⟩
 | exit id=>exact hq.elim
 | goto l=>exact hq.elim
 | outgrown=>exact ⟨.outgrown,w',b,hq,harr.resolve_left (by simp [b]),rfl,trivial⟩
theorem z4b {n:Nat} {f:FuncId} {fn:Func} {c:Code} {vs:List Value} {R:Ending→World→Prop} (hf:P.funcs[f]? = some fn) (hb:fn.body=some c) (hn:fn.ntmps=n) (hl:Nat.ble vs.length n=true)
  (k:∀Q:Exit→Act→World→Prop,(∀e a w,mK P fn R e a w→Q e a w)→∀a,EnvR n (aP 0 vs) [] a→c.wp P Q a w):Calls P f vs.toArray w R:=by
 have hl':vs.length≤n:=by simpa using hl
 refine y3e hf hb (k _ (fun _ _ _ h=>h) _ ⟨by simp [hn];omega,fun t v ht =>?_,rfl⟩)
 obtain ⟨_,h2⟩:=nZ vs 0 t v ht
 simp only [Nat.sub_zero] at h2
 have hlt:t < vs.length:=(List.getElem?_eq_some_iff.1 h2).1
 simp only [List.getElem?_toArray,Array.getElem?_append,List.size_toArray,hlt,↓reduceIte]
 exact h2
end
theorem y5y {P:Program} {n:Nat} {E:List (Nat×Value)} {a:Act} {w:World} {fn:Func} {R:Ending→World→Prop} (he:EnvR n E [] a) (hr:fn.results=#[]) (h:R (.returned (.tuple #[])) w):bodyPost P fn R .normal a w :=
 ⟨he.defs,.tuple #[],by simp [results,hr],h⟩
section
variable {P:Program} {n:Nat} {E:List (Nat×Value)} {D:List Deferred} {a:Act} {w:World} {ops:Array Oper} {rest:List Oper} {Q:Exit→Act→World→Prop} {ty:TypeId} {pos:String} {aft:Array Edge}
theorem tV {y:Operand} {fv:Fn} {fs cs vs:List Value} {xs:Array Operand} {ts:Array TypeId} (he:EnvR n E D a) (hy:ev E y=some (.func fv fs.toArray cs.toArray)) (hx:evs E xs.toList=some vs)
  (k:∀a,EnvR n E ({ target:=.fn fv cs.toArray,args:=(fs++vs).toArray }::D) a→wpList P ops Q rest a w) :
  wpList P ops Q (⟨none,.defer { callee:=.value y,args:=xs,argTypes:=ts },ty,pos,aft,none⟩::rest) a w:=by
 refine wpList_plain rfl fun L hL =>?_
 unfold Oper.wp
 simp only [execOp,resolve,he.evsA hx,he.ev hy,Deferred.ofValue]
 refine hL _ _ (k _ ⟨he.size,he.env,?_⟩)
 simp [Act.put,he.defs]
end
section
variable {P:Program} {n:Nat} {E:List (Nat×Value)} {D:List Deferred} {a:Act} {w:World} {ty:TypeId}
theorem y2y {x:Operand} {t t0:TypeId} {d:TypeDesc} {v:Value} (he:EnvR n E D a) (hx:ev E x=some (.iface t v)) (hu:Under P t d) (hd:∀ms,d≠.interface ms) :
  Ok P a (.typeAssert x t0 t true) ty w (.tuple (List.toArray [v,.bool true])):=fun _ _ _ _=>by
 simp only [execOp,he.ev hx,Instr.typeAssert]
 simp only [Sem.run_bind,hu _,Result.andThen,if_true]
 cases d <;> first | (exact absurd rfl (hd _)) | simp [Sem.run_bind,Result.andThen]
end
section
variable {P:Program} {n:Nat} {E:List (Nat×Value)} {D:List Deferred} {a:Act} {w:World} {d:Nat} {ops:Array Oper} {rest:List Oper} {Q:Exit→Act→World→Prop}
theorem stP {o:Oper} (he:EnvR n E D a) (hd:o.dst=some d) (hlt:Nat.blt d n=true) (hg:o.guard=none)
  (h:Oper.eff P o a w (fun v w'=>∀a,EnvR n ((d,v)::E) D a→wpList P ops Q rest a w') (fun c w'=>∀a,EnvR n E D a→Q (.panic c) a w')):wpList P ops Q (o::rest) a w:=by
 refine wpList_plain hg fun L hL=>oD (jZ h (fun v w' hv=>hL _ _ ?_) (fun c w' hc=>hc _ he))
 rw [hd];exact hv _ (he.put hlt)
end
theorem oX {P:Program} {fn:Func} {n:Nat} {E:List (Nat×Value)} {D:List Deferred} {a:Act} {Φ:Fz} {K:List Res} {w:World} {t T b i:Nat} {cs:List Value} {T0:TypeId} {v:Value} (he:EnvR n E D a) (hm:Sees Φ K w) (hr:fn.results=#[.cell t T]) (hv:get E t=some (.pointer (some ⟨b,0,none⟩)))
  (hk:qJ K i=some (.blk b (ob cs T0))) (hc:nth cs 0=some v) (hT:Scalar P T):(results fn a.tmps).run P w=.ok v w:=by
 have h1:=hm.cell hk 0
 rw [hc] at h1
 simp [results,hr,Array.getD_eq_getD_getElem?,he.env t _ hv,asAddr,loadVar,Sem.run_bind,hT w,Result.andThen,load,Sem.run,h1]
section
variable {P:Program} {n:Nat} {E:List (Nat×Value)} {D:List Deferred} {a:Act} {Φ:Fz} {K:List Res} {w:World}
theorem q8m {t T b k i:Nat} {cs:List Value} {T0:TypeId} (he:EnvR n E D a) (hm:Sees Φ K w) (hv:get E t=some (.pointer (some ⟨b,0,none⟩)))
  (hk:qJ K i=some (.blk b (ob cs T0))) (hT:AggT P T) (hS:SizeT P T k) (hl:cs.length=k):(loadVar T ⟨b,0,none⟩).run P w=.ok (.agg cs.toArray) w:=by
 have hc:∀j v,cs[j]? = some v→w.cell? ((⟨b,0,none⟩:Addr).add j)=some v:=fun j v hj=>by
  have h1:=hm.cell hk j
  rw [z0z,hj] at h1
  unfold Addr.add;split
  ·subst_vars;exact h1
  ·simpa using h1
 have h2:=run_loadCells_list (P:=P) (w:=w) ⟨b,0,none⟩ cs hc
 rw [hl] at h2
 simp [loadVar,Sem.run_bind,hT w,hS w,h2,Result.andThen]
end
section
variable {P:Program} {n:Nat} {E:List (Nat×Value)} {D:List Deferred} {a:Act} {Φ Ψ:Fz} {K:List Res} {w:World}
theorem Mem.freezeMap {b i:Nat} {m:List (Bs×Value)} (hm:Mem Φ K w) (hk:qJ K i=some (.mp b m)):∃Ψ,Φ.Le Ψ∧Mem Ψ (gH K i) w∧MapAt Ψ b m:=by
 have h:=hm.pull hk
 obtain ⟨es,clock,ho,hok⟩:=hm.own _ (qH hk)
 exact ⟨_,Fz.le_add (h.no rfl) _,h.freezeHead (b:=b) rfl ho,es,clock,by simp [Fz.add],hok⟩
theorem q2l {fn:Func} {t u x T U k i j b c:Nat} {v y:Value} {cs:List Value} {T0 T1:TypeId} (he:EnvR n E D a) (hm:Sees Φ K w) (hr:fn.results=#[.tmp x,.cell t T,.cell u U]) (hx:get E x=some y) (hv:get E t=some (.pointer (some ⟨b,0,none⟩)))
  (hk:qJ K i=some (.blk b (ob [v] T0))) (hT:Scalar P T) (hu:get E u=some (.pointer (some ⟨c,0,none⟩))) (hk2:qJ K j=some (.blk c (ob cs T1))) (hT2:AggT P U) (hS:SizeT P U k) (hl:cs.length=k) :
  (results fn a.tmps).run P w=.ok (.tuple (List.toArray [y,v,.agg cs.toArray])) w:=by
 have h1:w.cell? ⟨b,0,none⟩=some v:=hm.cell hk 0
 have h2:=q8m (P:=P) he hm hu hk2 hT2 hS hl
 have h3:(loadVar T ⟨b,0,none⟩).run P w=.ok v w:=by simp [loadVar,Sem.run_bind,hT w,Result.andThen,load,Sem.run,h1]
 simp [results,hr,Array.getD_eq_getD_getElem?,he.env t _ hv,he.env u _ hu,he.env x _ hx,asAddr,h2,h3,Sem.run_bind,Result.andThen]
end
theorem j0x {P:Program} {n:Nat} {E:List (Nat×Value)} {D:List Deferred} {a:Act} {w:World} {Kn:Value→World→Prop} {Qp:List PanicEntry→World→Prop} {dst:Option Tmp} {ty:TypeId} {pos:String} {aft:Array Edge} {g:Option (Nat×Bool)}
  {α β ε δ:Type} {f:FuncId} {xs:Array Operand} {ts:Array TypeId} {vs:List Value} {r:Except ε α} {X:α→β→Value} {Z:ε→δ→Value} {Φ1 Φ2:Fz} {KO:α→β→List Res} {KE:ε→δ→List Res}
  (he:EnvR n E D a) (hx:evs E xs.toList=some vs) (hf:∀args w,(callFunc f args).run P w=.ok (.enter f args) w)
  (hc:Calls P f vs.toArray w (fun e w'=>Out r (fun x=>∃y,e=.returned (X x y)∧Mem Φ1 (KO x y) w') (fun c=>∃y,e=.returned (Z c y)∧Mem Φ2 (KE c y) w')))
  (k:∀x y w',r=.ok x→Mem Φ1 (KO x y) w'→Kn (X x y) w') (kp:∀c y w',r=.error c→Mem Φ2 (KE c y) w'→Kn (Z c y) w') :
  Oper.eff P ⟨dst,.call { callee:=.value (.func f),args:=xs,argTypes:=ts },ty,pos,aft,g⟩ a w Kn Qp:=by
 refine mW he hx hf hc (fun v w' h =>?_) (fun c w' h =>?_) (fun w' h =>?_)
 ·cases r with
  | ok x=>obtain ⟨y,h1,h2⟩:=h;cases h1;exact k _ _ _ rfl h2
  | error c=>obtain ⟨y,h1,h2⟩:=h;cases h1;exact kp _ _ _ rfl h2
 ·cases r with
  | ok x=>obtain ⟨y,h1,_⟩:=h;cases h1
  | error c=>obtain ⟨y,h1,_⟩:=h;cases h1
 ·cases r with
  | ok x=>obtain ⟨y,h1,_⟩:=h;cases h1
  | error c=>obtain ⟨y,h1,_⟩:=h;cases h1
end Go.Sw
