import Derived.Test.YtgkhcfjooiekkaaGreatDoorProg
import Derived.Test.YtgkhcfjooiekkaaGreatDoorX00
import Derived.Test.YtgkhcfjooiekkaaGreatDoorX01
set_option linter.unusedVariables false
set_option linter.unusedSimpArgs false
namespace Go.Sw
structure Sound (T:Table) (C:Ctx):Prop where
 funs:C.funs=T.funs
 fOk:∀n f,lget T.funs n=some f→z6k T f=true∧f.result≠sNo
 dNo:lget T.datas sNo=none
 dInt:lget T.datas sInt=none
 cD:∀con m,lget T.cons con=some m→con≠sNo∧m.con.name=con∧m.data≠sInt∧∃d,lget T.datas m.data=some d∧m.con∈d.cons
 dC:∀t d x,lget T.datas t=some d→x∈d.cons→lget T.cons x.name=some ⟨t,x⟩
 cF:lget T.cons sFalse=some ⟨sBool,⟨sFalse,[]⟩⟩
 cT:lget T.cons sTrue=some ⟨sBool,⟨sTrue,[]⟩⟩
structure Closed (T:Table) (C:Ctx) (P:Ex→Prop):Prop where
 args:∀{e x},P e→x∈e.args→P x
 arms:∀{e a},P e→a∈e.arms→P a.body
 inp:∀{e t},P e→e.kind=3→lget T.inputs e.name=some t→∃v,lget C.inp e.name=some v∧hasP T v t=true
 call:∀{e f},P e→e.kind=5→lget T.funs e.name=some f→P f.body
def EnvOk (T:Table) (s:Scope) (env:Env):Prop:=∀n t,lget s n=some t→∃v,lget env n=some v∧hasP T v t=true
def Good (T:Table) (r:Ev Val) (t:Bs):Prop:=r≠.stuck∧∀v g,r=.ok v g→hasP T v t=true
def HasAll (T:Table) (vs:List Val) (ts:List Bs):Prop:=All2 (fun v t=>hasP T v t=true) vs ts
theorem EnvOk.put {T:Table} {s:Scope} {env:Env} {n t:Bs} {v:Val} (h:EnvOk T s env) (hv:hasP T v t=true):EnvOk T (lput s n t) ((n,v)::env):=fun m u hm=>by
 rw [z4e] at hm
 simp only [lget]
 split at hm
 ·simp only [Option.some.injEq] at hm;subst hm;rename_i hmn;rw [if_pos hmn];exact ⟨v,rfl,hv⟩
 ·rename_i hmn;rw [if_neg hmn];exact h m u hm
theorem bindV_ok {T:Table}:∀{ns ts:List Bs} {vs:List Val} {s:Scope} {env:Env},ns.length=ts.length→HasAll T vs ts→EnvOk T s env→∃env',bindV ns vs env=some env'∧EnvOk T (putAll s ns ts) env'
 | [],[],[],s,env,_,_,he=>⟨env,rfl,by rw [z3a];exact he⟩
 | n::ns,t::ts,v::vs,s,env,hl,hv,he=>by
  obtain ⟨env',h1,h2⟩:=bindV_ok (ns:=ns) (ts:=ts) (vs:=vs) (by simpa using hl) hv.2 (he.put (n:=n) hv.1)
  exact ⟨env',h1,h2⟩
 | [],_::_,_,_,_,hl,_,_=>by simp at hl
 | _::_,[],_,_,_,hl,_,_=>by simp at hl
 | [],[],_::_,_,_,_,hv,_=>hv.elim
 | _::_,_::_,[],_,_,_,hv,_=>hv.elim
theorem hasL_all {T:Table}:∀{vs:List Val} {ts:List Bs},vs.length=ts.length→(hasL T vs ts=true↔HasAll T vs ts)
 | [],[],_=>by simp [hasL,HasAll,All2]
 | v::vs,t::ts,hl=>by
  simp only [hasL,HasAll,All2,List.headD_cons,List.tail_cons,Bool.and_eq_true]
  rw [hasL_all (by simpa using hl)];rfl
 | [],_::_,hl=>by simp at hl
 | _::_,[],hl=>by simp at hl
theorem has_con {T:Table} {v:Val} {t:Bs} (h:hasP T v t=true) (ht:t≠sInt):v.con≠sNo∧∃m,lget T.cons v.con=some m∧m.data=t∧HasAll T v.args m.con.fields:=by
 cases v with
 | mk con num args =>
  simp only [hasP] at h
  split at h
  ·simp only [Bool.and_eq_true,decide_eq_true_eq] at h;exact absurd h.1.2 ht
  ·rename_i hc
   refine ⟨fun e=>hc (.inl e),?_⟩
   split at h
   ·cases h
   ·rename_i m hm
    simp only [Bool.and_eq_true,decide_eq_true_eq] at h
    exact ⟨m,hm,h.1.1.1,(hasL_all h.1.2.symm).1 h.2⟩
theorem has_mk {T:Table} {C:Ctx} (hS:Sound T C) {con:Bs} {m:Maker} {vs:List Val} (hm:lget T.cons con=some m) (hv:HasAll T vs m.con.fields):hasP T (.mk con 0 vs) m.data=true:=by
 obtain ⟨h1,h2,h3,_⟩:=hS.cD con m hm
 simp only [hasP]
 rw [if_neg (fun e=>by rcases e with e | e;exact h1 e;exact h3 e)]
 simp only [hm]
 have:=All2.length hv
 simp only [Bool.and_eq_true,decide_eq_true_eq]
 exact ⟨⟨⟨trivial,trivial⟩,this.symm⟩,(hasL_all this).2 hv⟩
theorem has_num {T:Table} (n:Int):hasP T (vNum n) sInt=true:=by
 simp [vNum,hasP]
theorem sInt_ne:sInt≠sNo:=by decide
theorem has_said {T:Table} {C:Ctx} (hS:Sound T C) (b:Bool):hasP T (vSaid b) sBool=true:=by
 cases b with
 | true=>exact has_mk hS (con:=sTrue) hS.cT (vs:=[]) trivial
 | false=>exact has_mk hS (con:=sFalse) hS.cF (vs:=[]) trivial
theorem each_good {T:Table} {C:Ctx} {P:Ex→Prop} {g:Nat} {s:Scope} {env:Env}
  (ih:∀g1,g1≤g→∀e t,P e→(z0n e).Nodup→Fresh s (z0n e)→Ty T e s t→Good T (z2g C g1 e env) t) :
  ∀{xs:List Ex} {ts:List Bs} {g1:Nat},(∀x∈xs,P x)→g1≤g→(bindPs xs).Nodup→Fresh s (bindPs xs)→All2 (fun x t=>Ty T x s t) xs ts→z4c (z2g C) env xs g1≠.stuck∧∀vs g2,z4c (z2g C) env xs g1=.ok vs g2→HasAll T vs ts∧g2≤g1
 | [],[],g1,_,_,_,_,_=>⟨fun h=>(by cases h),fun vs g2 h=>by simp only [z4c,Ev.ok.injEq] at h;obtain ⟨rfl,rfl⟩:=h;exact ⟨trivial,Nat.le_refl _⟩⟩
 | x::xs,t::ts,g1,hp,hg,hn,hf,ht=>by
  have hn':=z0p (show (z0n x++bindPs xs).Nodup from hn)
  obtain ⟨k1,k2⟩:=ih g1 hg x t (hp x List.mem_cons_self) hn'.1 (hf.sub fun n h=>List.mem_append.2 (.inl h)) ht.1
  simp only [z4c]
  cases hr:z2g C g1 x env with
  | stuck=>exact absurd hr k1
  | spent=>exact ⟨fun h=>(by cases h),fun vs g2 h=>by cases h⟩
  | ok v g3 =>
   have hlt:=z1u C _ _ _ _ _ hr
   obtain ⟨k3,k4⟩:=each_good ih (xs:=xs) (ts:=ts) (g1:=g3) (fun y hy=>hp y (List.mem_cons_of_mem _ hy)) (by omega) hn'.2.1 (hf.sub fun n h=>List.mem_append.2 (.inr h)) ht.2
   simp only [Ev.bind]
   cases hr2:z4c (z2g C) env xs g3 with
   | stuck=>exact absurd hr2 k3
   | spent=>exact ⟨fun h=>(by cases h),fun vs g2 h=>by cases h⟩
   | ok l g4 =>
    refine ⟨fun h=>(by cases h),fun vs g2 h =>?_⟩
    simp only [Ev.ok.injEq] at h
    obtain ⟨rfl,rfl⟩:=h
    have:=k4 _ _ hr2
    exact ⟨⟨k2 _ _ hr,this.1⟩,by omega⟩
 | [],_::_,_,_,_,_,_,ht=>ht.elim
 | _::_,[],_,_,_,_,_,ht=>ht.elim
theorem y0b (ps:List Param):z3q ps=putAll [] (ps.map Param.name) (ps.map Param.type):=by
 have:∀(ps:List Param) (s:Scope),ps.foldl (fun s p=>lput s p.name p.type) s=putAll s (ps.map Param.name) (ps.map Param.type):=by
  intro ps
  induction ps with
  | nil=>intro s;simp [z3a]
  | cons p ps ih=>intro s;simp only [List.foldl_cons,List.map_cons,z8i,ih]
 exact this ps []
theorem z5w {nm:Bs→Bool}:∀{l ds:List Bs},z5v nm ds l=true→l.Nodup∧(∀n∈l,n∉ds)∧∀n∈l,nm n=true
 | [],_,_=>by simp
 | s::l,ds,h=>by
  simp only [z5v,Bool.and_eq_true,Bool.not_eq_true'] at h
  obtain ⟨⟨h1,h2⟩,h3⟩:=h
  obtain ⟨k1,k2,k3⟩:=z5w h3
  have hs:s∉ds:=fun hm=>by
   have:has ds s=true:=by simp only [has,List.any_eq_true,decide_eq_true_eq];exact ⟨s,hm,rfl⟩
   rw [this] at h2;cases h2
  refine ⟨List.nodup_cons.2 ⟨fun hm=>k2 s hm (by simp),k1⟩,fun n hn =>?_,fun n hn =>?_⟩
  ·rcases List.mem_cons.1 hn with rfl | hn
   ·exact hs
   ·exact fun hm=>k2 n hn (List.mem_append.2 (.inl hm))
  ·rcases List.mem_cons.1 hn with rfl | hn
   ·exact h1
   ·exact k3 n hn
structure FunGood (T:Table) (f:Fun):Prop where
 nodup:(f.params.map Param.name++z0n f.body).Nodup
 ty:Ty T f.body (z3q f.params) f.result
theorem fun_good {T:Table} {C:Ctx} (hS:Sound T C) {n:Bs} {f:Fun} (h:lget T.funs n=some f):FunGood T f:=by
 obtain ⟨h1,h2⟩:=hS.fOk n f h
 simp only [z6k,Bool.and_eq_true,decide_eq_true_eq] at h1
 exact ⟨(z5w h1.1.2).1,h1.2,h1.2▸h2⟩
theorem call_good {T:Table} {C:Ctx} {P:Ex→Prop} (hS:Sound T C) {g:Nat} {n:Bs} {f:Fun} {vs:List Val} (h:lget T.funs n=some f) (hb:P f.body) (hv:HasAll T vs (f.params.map Param.type))
  (ih:∀e s env t,P e→(z0n e).Nodup→Fresh s (z0n e)→Ty T e s t→EnvOk T s env→Good T (z2g C g e env) t):Good T (z5e (z2g C) f vs g) f.result:=by
 have hf:=fun_good hS h
 have hn:=z0p hf.nodup
 obtain ⟨env',h1,h2⟩:=bindV_ok (T:=T) (ns:=f.params.map Param.name) (ts:=f.params.map Param.type) (vs:=vs) (s:=[]) (env:=[]) (by simp) hv (fun n t h=>by cases h)
 unfold z5e z9o
 rw [h1]
 rw [← y0b] at h2
 refine ih _ _ _ _ hb hn.2.1 (fun m hm =>?_) hf.ty h2
 rw [y0b,z3o (fun hp=>hn.2.2 m hp hm)];rfl
theorem findArm_ok {T:Table} {s:Scope} {t:Bs}:∀{az:List Arm} {cs:List Con} {c:Con},All2 (fun a c=>ArmOk T s t a c) az cs→c∈cs→(∀d∈cs,d.name=c.name→d=c)→∃a,z4m az c.name=some a∧a∈az∧ArmOk T s t a c
 | [],[],_,_,h,_=>by cases h
 | a::az,d::cs,c,h,hc,hu=>by
  simp only [z4m]
  by_cases he:a.con=c.name
  ·rw [if_pos he]
   have:d=c:=hu d List.mem_cons_self (by rw [← h.1.1];exact he)
   subst this
   exact ⟨a,rfl,List.mem_cons_self,h.1⟩
  ·rw [if_neg he]
   rcases List.mem_cons.1 hc with rfl | hc
   ·exact absurd h.1.1 he
   ·obtain ⟨b,k1,k2,k3⟩:=findArm_ok h.2 hc (fun e he=>hu e (List.mem_cons_of_mem _ he))
    exact ⟨b,k1,List.mem_cons_of_mem _ k2,k3⟩
 | [],_::_,_,h,_,_=>h.elim
 | _::_,[],_,h,_,_=>h.elim
theorem mem_bindPa {az:List Arm} {a:Arm} (h:a∈az):∃l r,bindPa az=l++(a.vars++z0n a.body)++r:=by
 induction az with
 | nil=>cases h
 | cons b az ih =>
  rw [z1j]
  rcases List.mem_cons.1 h with rfl | h
  ·exact ⟨[],bindPa az,by simp⟩
  ·obtain ⟨l,r,e⟩:=ih h
   exact ⟨b.vars++z0n b.body++l,r,by rw [e];simp⟩
theorem sound {T:Table} {C:Ctx} {P:Ex→Prop} (hS:Sound T C) (hP:Closed T C P):∀(g:Nat) (e:Ex) (s:Scope) (env:Env) (t:Bs),P e→(z0n e).Nodup→Fresh s (z0n e)→Ty T e s t→EnvOk T s env→Good T (z2g C g e env) t:=by
 intro g
 induction g using Nat.strongRecOn with
 | _ g ih =>
 cases g with
 | zero=>exact fun e s env t _ _ _ _ _=>⟨fun h=>(by rw [z9t] at h;cases h),fun v g h=>by rw [z9t] at h;cases h⟩
 | succ g =>
 intro e s env t hp hn hf ht he
 obtain ⟨ht,hne⟩:=ht
 have hkp:∀x,Keeps T x:=fun x=>y0p T hS.dNo _ x (Nat.lt_succ_self _)
 rw [z6u] at hn hf
 have hn1:=z0p hn
 have hn2:=z0p hn1.1
 have hfa:Fresh s (bindPs e.args):=hf.sub fun m hm=>List.mem_append.2 (.inl (List.mem_append.2 (.inr hm)))
 have hfb:Fresh s (bindPa e.arms):=hf.sub fun m hm=>List.mem_append.2 (.inr hm)
 have ihg:∀g1,g1≤g→∀e t,P e→(z0n e).Nodup→Fresh s (z0n e)→Ty T e s t→Good T (z2g C g1 e env) t:=fun g1 hg e t p a b c=>ih g1 (by omega) e s env t p a b c he
 rw [z0u]
 have okG:∀(v:Val) (g1:Nat),hasP T v t=true→Good T (.ok v g1) t:=fun v g1 h=>⟨fun h=>(by cases h),fun v' g' h'=>by simp only [Ev.ok.injEq] at h';rw [← h'.1];exact h⟩
 have spG:Good T .spent t:=⟨fun h=>(by cases h),fun v' g' h'=>by cases h'⟩
 unfold z3z
 by_cases h1:e.kind=1
 ·rw [if_pos h1]
  rw [z7x T e s h1] at ht
  simp only [numberT] at ht
  split at ht
  ·subst ht;exact okG _ _ (has_num _)
  ·exact absurd ht.symm hne
 rw [if_neg h1]
 by_cases h2:e.kind=2
 ·rw [if_pos h2]
  rw [z7y T e s h2] at ht
  simp only [z5n] at ht
  split at ht
  ·cases hl:lget s e.name with
   | none=>rw [hl] at ht;exact absurd ht.symm hne
   | some u =>
    rw [hl] at ht
    simp only [Option.getD_some] at ht;subst ht
    obtain ⟨v,k1,k2⟩:=he _ _ hl
    rw [k1];exact okG _ _ k2
  ·exact absurd ht.symm hne
 rw [if_neg h2]
 by_cases h3:e.kind=3
 ·rw [if_pos h3]
  rw [z7v T e s h3] at ht
  simp only [inputT] at ht
  split at ht
  ·cases hl:lget T.inputs e.name with
   | none=>rw [hl] at ht;exact absurd ht.symm hne
   | some u =>
    rw [hl] at ht
    simp only [Option.getD_some] at ht;subst ht
    obtain ⟨v,k1,k2⟩:=hP.inp hp h3 hl
    rw [k1];exact okG _ _ k2
  ·exact absurd ht.symm hne
 rw [if_neg h3]
 by_cases h4:e.kind=4
 ·rw [if_pos h4]
  rw [z7u T e s h4] at ht
  unfold conT at ht
  split at ht
  ·exact absurd ht.symm hne
  ·rename_i m hm
   split at ht
   ·split at ht
    ·rename_i ha
     subst ht
     obtain ⟨k1,k2⟩:=each_good (g:=g) ihg (fun x hx=>hP.args hp hx) (Nat.le_refl g) hn2.2.1 hfa (z7j (fun x _=>hkp x) hn2.2.1 hfa ha).2
     cases hr:z4c (z2g C) env e.args g with
     | stuck=>exact absurd hr k1
     | spent=>exact spG
     | ok vs g2=>exact okG _ _ (has_mk hS hm (k2 _ _ hr).1)
    ·exact absurd ht.symm hne
   ·exact absurd ht.symm hne
 rw [if_neg h4]
 by_cases h5:e.kind=5
 ·rw [if_pos h5]
  rw [z6s T e s h5] at ht
  unfold callT at ht
  split at ht
  ·exact absurd ht.symm hne
  ·rename_i f hm
   split at ht
   ·split at ht
    ·rename_i ha
     subst ht
     obtain ⟨k1,k2⟩:=each_good (g:=g) ihg (fun x hx=>hP.args hp hx) (Nat.le_refl g) hn2.2.1 hfa (z7j (fun x _=>hkp x) hn2.2.1 hfa ha).2
     rw [hS.funs,hm]
     simp only
     cases hr:z4c (z2g C) env e.args g with
     | stuck=>exact absurd hr k1
     | spent=>exact spG
     | ok vs g2 =>
      simp only [Ev.bind]
      obtain ⟨k3,k4⟩:=k2 _ _ hr
      exact call_good hS hm (hP.call hp h5 hm) k3 (fun e s env t=>ih g2 (by omega) e s env t)
    ·exact absurd ht.symm hne
   ·exact absurd ht.symm hne
 rw [if_neg h5]
 by_cases h6:e.kind=6
 ·rw [if_pos h6]
  rw [z7w T e s h6] at ht
  unfold letT at ht
  split at ht
  ·rename_i hb
   have hl:=z3d (n:=2) hb
   obtain ⟨x,y,hxy⟩:∃x y,e.args=[x,y]:=by
    cases ha:e.args with
    | nil=>rw [ha] at hl;simp at hl
    | cons a l =>
     cases l with
     | nil=>rw [ha] at hl;simp at hl
     | cons b l =>
      rw [ha] at hl
      simp only [List.length_cons] at hl
      have:l=[]:=List.eq_nil_of_length_eq_zero (by omega)
      subst this;exact ⟨a,b,rfl⟩
   rw [hxy] at ht ⊢
   simp only
   have hx:[x,y][0]? = some x:=rfl
   have hy:[x,y][1]? = some y:=rfl
   by_cases h0:(z0c T x s).1=sNo
   ·rw [letP_no hx h0] at ht;exact absurd ht.symm hne
   ·rw [letP_yes hx hy h0] at ht
    simp only at ht
    simp only [if_pos h6,hxy,bindPs,List.append_nil] at hn hf
    have hm1:=z0p hn
    have hm2:=z0p hm1.1
    have hm3:=z0p hm2.2.1
    have hfx:Fresh s (z0n x):=hf.sub fun m hm=>by simp [hm]
    have e1:=hkp x s hm3.1 hfx h0
    obtain ⟨k1,k2⟩:=ihg g (Nat.le_refl g) x _ (hP.args hp (by rw [hxy];simp)) hm3.1 hfx ⟨rfl,h0⟩
    cases hr:z2g C g x env with
    | stuck=>exact absurd hr k1
    | spent=>exact spG
    | ok v g2 =>
     have:=z1u C _ _ _ _ _ hr
     simp only [Ev.bind]
     have hkey:Fresh (lput s e.name (z0c T x s).1) (z0n y):=fun m hm=>by
      rw [z4e,if_neg]
      ·exact hf m (by simp [hm])
      ·rintro rfl
       exact hm2.2.2 e.name (by simp) (by simp [hm])
     rw [e1] at ht
     exact ih g2 (by omega) y (lput s e.name (z0c T x s).1) _ t (hP.args hp (by rw [hxy];simp)) hm3.2.1 hkey ⟨ht,hne⟩ (he.put (k2 _ _ hr))
  ·exact absurd ht.symm hne
 rw [if_neg h6]
 by_cases h7:e.kind=7
 ·rw [if_pos h7]
  rw [z6t T e s h7] at ht
  unfold z3r at ht
  split at ht
  ·rename_i hb
   have hl:=z3d (n:=1) hb
   obtain ⟨x,hxy⟩:∃x,e.args=[x]:=by
    cases ha:e.args with
    | nil=>rw [ha] at hl;simp at hl
    | cons a l =>
     rw [ha] at hl
     simp only [List.length_cons] at hl
     have:l=[]:=List.eq_nil_of_length_eq_zero (by omega)
     subst this;exact ⟨a,rfl⟩
   rw [hxy] at ht ⊢
   simp only [firstP] at ht ⊢
   split at ht
   ·exact absurd ht.symm hne
   ·rename_i d hd
    split at ht
    ·rename_i hle
     have h0:(z0c T x s).1≠sNo:=fun e0=>by rw [e0,hS.dNo] at hd;cases hd
     have hi0:(z0c T x s).1≠sInt:=fun e0=>by rw [e0,hS.dInt] at hd;cases hd
     rw [hxy] at hn2 hfa
     simp only [bindPs,List.append_nil] at hn2 hfa
     have e1:=hkp x s hn2.2.1 hfa h0
     rw [e1] at ht
     obtain ⟨k1,k2⟩:=ihg g (Nat.le_refl g) x _ (hP.args hp (by rw [hxy];simp)) hn2.2.1 hfa ⟨rfl,h0⟩
     cases hr:z2g C g x env with
     | stuck=>exact absurd hr k1
     | spent=>exact spG
     | ok v g2 =>
      have:=z1u C _ _ _ _ _ hr
      simp only [Ev.bind]
      obtain ⟨j1,m,j2,j3,j4⟩:=has_con (k2 _ _ hr) hi0
      obtain ⟨_,j5,_,d',j6,j7⟩:=hS.cD _ _ j2
      rw [j3,hd] at j6
      simp only [Option.some.injEq] at j6;subst j6
      have hsp:=splitP_inv hne (fun a _=>hkp a.body) hle hn1.2.1 hfb ht
      obtain ⟨a,q1,q2,q3,q4,q5⟩:=findArm_ok (c:=m.con) hsp.2.1 j7 (fun d2 hd2 hnm=>by
       have r1:=hS.dC _ _ _ hd hd2
       have r2:=hS.dC _ _ _ hd j7
       rw [hnm,r2] at r1
       simp only [Option.some.injEq,Maker.mk.injEq,true_and] at r1
       exact r1.symm)
      rw [j5] at q1
      rw [q1]
      simp only
      obtain ⟨l,r,hlr⟩:=mem_bindPa q2
      have hnn:(a.vars++z0n a.body).Nodup:=by
       have:=hn1.2.1
       rw [hlr] at this
       exact (z0p (z0p this).1).2.1
      have hff:Fresh s (a.vars++z0n a.body):=hfb.sub fun m hm=>by rw [hlr];simp at hm ⊢;rcases hm with hm | hm <;> simp [hm]
      have hnn':=z0p hnn
      obtain ⟨env',w1,w2⟩:=bindV_ok (ns:=a.vars) q4 j4 he
      unfold z9o
      rw [w1]
      exact ih g2 (by omega) a.body _ env' t (hP.arms hp q2) hnn'.2.1 (fun m hm=>by
       rw [z3o (fun hp=>hnn'.2.2 m hp hm)];exact hff m (List.mem_append.2 (.inr hm))) q5 w2
    ·exact absurd ht.symm hne
  ·exact absurd ht.symm hne
 rw [if_neg h7]
 by_cases h8:e.kind=8
 ·rw [if_pos h8]
  rw [y0d T e s h8] at ht
  unfold opsT at ht
  split at ht
  ·split at ht
   ·rename_i ha
    obtain ⟨k1,k2⟩:=each_good (g:=g) ihg (fun x hx=>hP.args hp hx) (Nat.le_refl g) hn2.2.1 hfa (z7j (fun x _=>hkp x) hn2.2.1 hfa ha).2
    cases hr:z4c (z2g C) env e.args g with
    | stuck=>exact absurd hr k1
    | spent=>exact spG
    | ok vs g2 =>
     simp only [Ev.bind]
     obtain ⟨k3,k4⟩:=k2 _ _ hr
     match vs,k3 with
     | [a,b],k3 =>
      simp only
      refine okG _ _ ?_
      simp only at ht
      unfold opT at ht
      unfold z2m
      split at ht
      ·rename_i ho
       subst ht
       split
       ·exact has_num _
       split
       ·exact has_num _
       split
       ·exact has_num _
       split
       ·rename_i h;rw [h] at ho;simp at ho
       split
       ·rename_i h;rw [h] at ho;simp at ho
       split
       ·exact has_num 0
       split <;> exact has_num _
      ·split at ht
       ·rename_i hno ho
        subst ht
        split
        ·rename_i h;exact absurd (.inl h) hno
        split
        ·rename_i h;exact absurd (.inr (.inl h)) hno
        split
        ·rename_i h;exact absurd (.inr (.inr (.inl h))) hno
        split
        ·exact has_said hS _
        split
        ·exact has_said hS _
        ·rename_i u1 u2;rcases ho with h | h
         ·exact absurd h u1
         ·exact absurd h u2
       ·exact absurd ht.symm hne
     | [],k3=>exact k3.elim
     | [a],k3=>exact k3.2.elim
     | a::b::c::l,k3=>exact k3.2.2.elim
   ·exact absurd ht.symm hne
  ·exact absurd ht.symm hne
 rw [if_neg h8]
 rw [z8q T e s h1 h2 h3 h4 h5 h6 h7 h8] at ht
 exact absurd ht.symm hne
end Go.Sw

namespace Go.Sw
section
variable {α:Type}
def ents {β:Type} (key:β→Bs) (val:β→α) (l:List β):List (Bs×α):=l.map fun x=>(key x,val x)
theorem ents_get {β:Type} {key:β→Bs} {val:β→α}:∀{l:List β} {x:β},(l.map key).Nodup→x∈l→lget (ents key val l) (key x)=some (val x)
 | y::l,x,hn,h=>by
  simp only [List.map_cons,List.nodup_cons] at hn
  simp only [ents,List.map_cons,lget]
  rcases List.mem_cons.1 h with rfl | h
  ·rw [if_pos rfl]
  ·rw [if_neg (fun e=>hn.1 (by rw [← e];exact List.mem_map_of_mem h))]
   exact ents_get hn.2 h
theorem z3l {β:Type} {key:β→Bs} {val:β→α}:∀{l:List β} {n:Bs} {v:α},lget (ents key val l) n=some v→∃x∈l,key x=n∧val x=v
 | [],_,_,h=>by simp [ents,lget] at h
 | y::l,n,v,h=>by
  simp only [ents,List.map_cons,lget] at h
  split at h
  ·simp only [Option.some.injEq] at h;rename_i e;exact ⟨y,List.mem_cons_self,e.symm,h⟩
  ·obtain ⟨x,h1,h2⟩:=z3l h;exact ⟨x,List.mem_cons_of_mem _ h1,h2⟩
theorem z2l {s r:List (Bs×α)} {n:Bs} (h:lget (s++r) n=none):lget s n=none∧lget r n=none:=by
 induction s with
 | nil=>exact ⟨rfl,h⟩
 | cons p s ih =>
  obtain ⟨k,x⟩:=p
  simp only [List.cons_append,lget] at h ⊢
  split at h
  ·cases h
  ·rename_i hne;rw [if_neg hne];exact ih h
theorem y0q {k n:Bs} {x:α}:lget [(k,x)] n=none↔n≠k:=by
 simp [lget]
end
theorem onceL_new {α:Type} {m:List (Bs×α)} {s:Bs} {x:α} (h:lget m s=none):z2z m s x=m++[(s,x)]:=by
 unfold z2z;rw [h];exact lput_fresh h
theorem tabC_inv (dn:Bs):∀{l:List Con} {ok:Bool} {m:List (Bs×Maker)},(tabC dn ok m l).1=true →
  ok=true∧(tabC dn ok m l).2=m++ents Con.name (fun x=>⟨dn,x⟩) l∧(∀x∈l,z2k x.name=true∧lget m x.name=none)∧(l.map Con.name).Nodup
 | [],ok,m,h=>⟨h,by simp [tabC,ents],by simp,by simp⟩
 | x::l,ok,m,h=>by
  simp only [tabC] at h ⊢
  split at h
  ·rename_i hc
   rw [if_pos hc]
   simp only [Bool.and_eq_true] at hc
   obtain ⟨h1,h2,h3,h4⟩:=tabC_inv dn h
   have hx:lget m x.name=none:=by simpa using h1
   rw [onceL_new hx] at h2 h3 ⊢
   refine ⟨hc.1,by rw [h2];simp [ents],fun y hy =>?_,?_⟩
   ·rcases List.mem_cons.1 hy with rfl | hy
    ·exact ⟨hc.2,hx⟩
    ·exact ⟨(h3 y hy).1,(z2l (h3 y hy).2).1⟩
   ·simp only [List.map_cons,List.nodup_cons]
    refine ⟨fun hm =>?_,h4⟩
    obtain ⟨y,hy,e⟩:=List.mem_map.1 hm
    have:=(z2l (h3 y hy).2).2
    rw [y0q] at this
    exact this e
  ·have:=(tabC_inv dn h).1;cases this
def consE (l:List Data):List (Bs×Maker):=(l.map fun d=>ents Con.name (fun x=>(⟨d.name,x⟩:Maker)) d.cons).flatten
theorem tabD_inv:∀{l:List Data} {ok:Bool} {ds:List (Bs×Data)} {m:List (Bs×Maker)},(tabD ok ds m l).1=true →
  ok=true∧(tabD ok ds m l).2.1=ds++ents Data.name id l∧(tabD ok ds m l).2.2=m++consE l ∧
  (∀d∈l,z2k d.name=true∧d.name≠sInt∧lget ds d.name=none∧(d.cons.map Con.name).Nodup∧∀x∈d.cons,z2k x.name=true∧lget m x.name=none)∧(l.map Data.name).Nodup ∧
  ((l.map fun d=>d.cons.map Con.name).flatten).Nodup
 | [],ok,ds,m,h=>⟨h,by simp [tabD,ents],by simp [tabD,consE],by simp,by simp,by simp⟩
 | d::l,ok,ds,m,h=>by
  simp only [tabD] at h ⊢
  obtain ⟨h1,h2,h3,h4,h5,h6⟩:=tabD_inv h
  obtain ⟨g1,g2,g3,g4⟩:=tabC_inv d.name h1
  simp only [tabOk,Bool.and_eq_true,decide_eq_true_eq,Bool.not_eq_true',decide_eq_false_iff_not,Option.isNone_iff_eq_none] at g1
  obtain ⟨⟨⟨⟨k1,k2⟩,k3⟩,k4⟩,k5⟩:=g1
  have hp:z7i ok ds d=ds++[(d.name,d)]:=by
   unfold z7i
   rw [if_pos (by simp [k1,k2,k3])]
   exact onceL_new k4
  rw [hp,g2] at h2 h3 h4 ⊢
  refine ⟨k1,by rw [h2];simp [ents],by rw [h3];simp [consE],fun e he =>?_,?_,?_⟩
  ·rcases List.mem_cons.1 he with rfl | he
   ·exact ⟨k2,k3,k4,g4,fun x hx=>g3 x hx⟩
   ·obtain ⟨j1,j2,j3,j4,j5⟩:=h4 e he
    exact ⟨j1,j2,(z2l j3).1,j4,fun x hx=>⟨(j5 x hx).1,(z2l (j5 x hx).2).1⟩⟩
  ·simp only [List.map_cons,List.nodup_cons]
   refine ⟨fun hm =>?_,h5⟩
   obtain ⟨e,he,e1⟩:=List.mem_map.1 hm
   have:=(z2l (h4 e he).2.2.1).2
   rw [y0q] at this
   exact this e1
  ·simp only [List.map_cons,List.flatten_cons]
   rw [List.nodup_append]
   refine ⟨g4,h6,fun n hn m' hm' e =>?_⟩
   subst e
   obtain ⟨x,hx,rfl⟩:=List.mem_map.1 hn
   obtain ⟨ns,hns,hx2⟩:=List.mem_flatten.1 hm'
   obtain ⟨e,he,rfl⟩:=List.mem_map.1 hns
   obtain ⟨y,hy,hxy⟩:=List.mem_map.1 hx2
   have:=(z2l ((h4 e he).2.2.2.2 y hy).2).2
   rw [hxy] at this
   have h7:lget (ents Con.name (fun x=>(⟨d.name,x⟩:Maker)) d.cons) x.name=some ⟨d.name,x⟩:=ents_get (val:=fun x=>(⟨d.name,x⟩:Maker)) g4 hx
   rw [h7] at this;cases this
theorem tabF_inv:∀{l:List Fun} {ok:Bool} {m:List (Bs×Fun)},(tabF ok m l).1=true →
  ok=true∧(tabF ok m l).2=m++ents Fun.name id l∧(∀f∈l,z1s f.name=true∧lget m f.name=none)∧(l.map Fun.name).Nodup
 | [],ok,m,h=>⟨h,by simp [tabF,ents],by simp,by simp⟩
 | x::l,ok,m,h=>by
  simp only [tabF] at h ⊢
  split at h
  ·rename_i hc
   rw [if_pos hc]
   simp only [Bool.and_eq_true] at hc
   obtain ⟨h1,h2,h3,h4⟩:=tabF_inv h
   have hx:lget m x.name=none:=by simpa using h1
   rw [onceL_new hx] at h2 h3 ⊢
   refine ⟨hc.1,by rw [h2];simp [ents],fun y hy =>?_,?_⟩
   ·rcases List.mem_cons.1 hy with rfl | hy
    ·exact ⟨hc.2,hx⟩
    ·exact ⟨(h3 y hy).1,(z2l (h3 y hy).2).1⟩
   ·simp only [List.map_cons,List.nodup_cons]
    refine ⟨fun hm =>?_,h4⟩
    obtain ⟨y,hy,e⟩:=List.mem_map.1 hm
    have:=(z2l (h3 y hy).2).2
    rw [y0q] at this
    exact this e
  ·have:=(tabF_inv h).1;cases this
theorem tabI_inv:∀{l:List Param} {ok:Bool} {m:List (Bs×Bs)},(tabI ok m l).1=true →
  ok=true∧(tabI ok m l).2=m++ents Param.name Param.type l∧(∀p∈l,z1s p.name=true∧lget m p.name=none)∧(l.map Param.name).Nodup
 | [],ok,m,h=>⟨h,by simp [tabI,ents],by simp,by simp⟩
 | x::l,ok,m,h=>by
  simp only [tabI] at h ⊢
  split at h
  ·rename_i hc
   rw [if_pos hc]
   simp only [Bool.and_eq_true] at hc
   obtain ⟨h1,h2,h3,h4⟩:=tabI_inv h
   have hx:lget m x.name=none:=by simpa using h1
   rw [onceL_new hx] at h2 h3 ⊢
   refine ⟨hc.1,by rw [h2];simp [ents],fun y hy =>?_,?_⟩
   ·rcases List.mem_cons.1 hy with rfl | hy
    ·exact ⟨hc.2,hx⟩
    ·exact ⟨(h3 y hy).1,(z2l (h3 y hy).2).1⟩
   ·simp only [List.map_cons,List.nodup_cons]
    refine ⟨fun hm =>?_,h4⟩
    obtain ⟨y,hy,e⟩:=List.mem_map.1 hm
    have:=(z2l (h3 y hy).2).2
    rw [y0q] at this
    exact this e
  ·have:=(tabI_inv h).1;cases this
structure Right (c:Core):Prop where
 datas:(z0f c).datas=ents Data.name id (truthsD::c.datas)
 cons:(z0f c).cons=consE (truthsD::c.datas)
 funs:(z0f c).funs=ents Fun.name id c.funs
 inputs:(z0f c).inputs=ents Param.name Param.type c.inputs
 dN:∀d∈truthsD::c.datas,z2k d.name=true∧d.name≠sInt∧(d.cons.map Con.name).Nodup∧∀x∈d.cons,z2k x.name=true
 dU:((truthsD::c.datas).map Data.name).Nodup
 cU:(((truthsD::c.datas).map fun d=>d.cons.map Con.name).flatten).Nodup
 fN:∀f∈c.funs,z1s f.name=true
 fU:(c.funs.map Fun.name).Nodup
 iN:∀p∈c.inputs,z1s p.name=true
 iU:(c.inputs.map Param.name).Nodup
 outs:c.outputs≠[]
 fields:∀d∈c.datas,z4x (z0f c) d=true
 inT:∀p∈c.inputs,z2p c.datas p.type=true
 fOk:∀f∈c.funs,z6k (z0f c) f=true
 oOk:z6m (z0f c) [] c.outputs=true
theorem right_of {c:Core} (h:z2a c=true):Right c:=by
 simp only [z2a,Bool.and_eq_true,decide_eq_true_eq,List.all_eq_true] at h
 obtain ⟨⟨⟨⟨⟨h1,h2⟩,h3⟩,h4⟩,h5⟩,h6⟩:=h
 obtain ⟨i1,i2,i3,i4⟩:=tabI_inv (show (tabI (fsP c).1 [] c.inputs).1=true from h1)
 obtain ⟨f1,f2,f3,f4⟩:=tabF_inv (show (tabF (dsP c).1 [] c.funs).1=true from i1)
 obtain ⟨_,d2,d3,d4,d5,d6⟩:=tabD_inv (show (tabD true [] [] (truthsD::c.datas)).1=true from f1)
 exact { datas:=d2,cons:=d3,funs:=f2,inputs:=i2,dN:=fun d hd=>⟨(d4 d hd).1,(d4 d hd).2.1,(d4 d hd).2.2.2.1,fun x hx=>((d4 d hd).2.2.2.2 x hx).1⟩,dU:=d5,cU:=d6,fN:=fun f hf=>(f3 f hf).1,fU:=f4,iN:=fun p hp=>(i3 p hp).1,iU:=i4,outs:=h2,fields:=h3,inT:=h4,fOk:=h5,oOk:=h6 }
theorem isCon_no:z2k sNo=false:=by decide
theorem consE_get {l:List Data}:(((l.map fun d=>d.cons.map Con.name).flatten).Nodup)→∀{d x},d∈l→x∈d.cons→lget (consE l) x.name=some ⟨d.name,x⟩:=by
 induction l with
 | nil=>intro _ d x h;cases h
 | cons e l ih =>
  intro hn d x hd hx
  simp only [List.map_cons,List.flatten_cons] at hn
  have hn':=z0p hn
  simp only [consE,List.map_cons,List.flatten_cons]
  rcases List.mem_cons.1 hd with rfl | hd
  ·have:=ents_get (val:=fun x=>(⟨d.name,x⟩:Maker)) hn'.1 hx
   generalize ents Con.name (fun x=>(⟨d.name,x⟩:Maker)) d.cons=s at this ⊢
   clear hn hn' ih
   induction s with
   | nil=>cases this
   | cons p s ih2 =>
    obtain ⟨k,y⟩:=p
    simp only [List.cons_append,lget] at this ⊢
    split at this
    ·rename_i h;rw [if_pos h];exact this
    ·rename_i h;rw [if_neg h];exact ih2 this
  ·rw [lget_app]
   ·exact ih hn'.2.1 hd hx
   ·cases hg:lget (ents Con.name (fun x=>(⟨e.name,x⟩:Maker)) e.cons) x.name with
    | none=>rfl
    | some v =>
     obtain ⟨y,hy,h1,_⟩:=z3l hg
     exact absurd (List.mem_flatten.2 ⟨_,List.mem_map_of_mem (f:=fun d:Data=>d.cons.map Con.name) hd,List.mem_map_of_mem (f:=Con.name) hx⟩) (hn'.2.2 x.name (h1▸List.mem_map_of_mem (f:=Con.name) hy))
theorem consE_mem {l:List Data} {n:Bs} {m:Maker} (h:lget (consE l) n=some m):∃d∈l,m.data=d.name∧m.con∈d.cons∧m.con.name=n:=by
 induction l with
 | nil=>simp [consE,lget] at h
 | cons e l ih =>
  simp only [consE,List.map_cons,List.flatten_cons] at h
  cases hg:lget (ents Con.name (fun x=>(⟨e.name,x⟩:Maker)) e.cons) n with
  | none =>
   rw [lget_app hg] at h
   obtain ⟨d,hd,r⟩:=ih h
   exact ⟨d,List.mem_cons_of_mem _ hd,r⟩
  | some v =>
   have hv:lget (ents Con.name (fun x=>(⟨e.name,x⟩:Maker)) e.cons++(l.map fun d=>ents Con.name (fun x=>(⟨d.name,x⟩:Maker)) d.cons).flatten) n=some v:=by
    clear h ih
    generalize ents Con.name (fun x=>(⟨e.name,x⟩:Maker)) e.cons=s at hg ⊢
    induction s with
    | nil=>cases hg
    | cons p s ih2 =>
     obtain ⟨k,y⟩:=p
     simp only [List.cons_append,lget] at hg ⊢
     split at hg
     ·rename_i h;rw [if_pos h];exact hg
     ·rename_i h;rw [if_neg h];exact ih2 hg
   rw [hv] at h
   simp only [Option.some.injEq] at h;subst h
   obtain ⟨y,hy,h1,h2⟩:=z3l hg
   subst h2
   exact ⟨e,List.mem_cons_self,rfl,hy,h1⟩
def inpP (l:List Named):List (Bs×Val):=l.foldl (fun m x=>lput m x.name x.value) []
theorem given_get {T:Table}:∀{l:List Named} {ps:List Param},z9b T l ps=true→l.map Named.name=ps.map Param.name∧∀p∈ps,∃x∈l,x.name=p.name∧hasP T x.value p.type=true
 | [],[],_=>⟨rfl,fun p h=>by cases h⟩
 | v::vs,p::ps,h=>by
  simp only [z9b,Bool.and_eq_true,decide_eq_true_eq] at h
  obtain ⟨h1,h2⟩:=given_get h.2
  refine ⟨by simp [h1,h.1.1.1],fun q hq =>?_⟩
  rcases List.mem_cons.1 hq with rfl | hq
  ·exact ⟨v,List.mem_cons_self,h.1.1.1,h.1.2⟩
  ·obtain ⟨x,hx,r⟩:=h2 q hq;exact ⟨x,List.mem_cons_of_mem _ hx,r⟩
 | [],_::_,h=>by cases h
 | _::_,[],h=>by cases h
theorem inpP_get {l:List Named} (hn:(l.map Named.name).Nodup) {x:Named} (hx:x∈l):lget (inpP l) x.name=some x.value:=by
 have:∀(l:List Named) (m:List (Bs×Val)),(l.map Named.name).Nodup→∀x,(x∈l→lget (l.foldl (fun m x=>lput m x.name x.value) m) x.name=some x.value)∧∀n,n∉l.map Named.name→lget (l.foldl (fun m x=>lput m x.name x.value) m) n=lget m n:=by
  intro l
  induction l with
  | nil=>intro m _ x;exact ⟨fun h=>(by cases h),fun n _=>rfl⟩
  | cons y l ih =>
   intro m hn x
   simp only [List.map_cons,List.nodup_cons] at hn
   obtain ⟨k1,k2⟩:=ih (lput m y.name y.value) hn.2 x
   simp only [List.foldl_cons]
   refine ⟨fun hx =>?_,fun n hnn =>?_⟩
   ·rcases List.mem_cons.1 hx with rfl | hx
    ·rw [k2 _ hn.1,z4e,if_pos rfl]
    ·exact k1 hx
   ·simp only [List.map_cons,List.mem_cons,not_or] at hnn
    rw [k2 n hnn.2,z4e,if_neg hnn.1]
 exact (this l [] hn x).1 hx
theorem type_ne {c:Core} (hR:Right c) {t:Bs} (h:z2b (z0f c) t=true):t≠sNo:=by
 rintro rfl
 simp only [z2b,Bool.or_eq_true,decide_eq_true_eq] at h
 rcases h with h | h
 ·rw [hR.datas] at h
  cases hg:lget (ents Data.name id (truthsD::c.datas)) sNo with
  | none=>rw [hg] at h;cases h
  | some d =>
   obtain ⟨x,hx,h1,_⟩:=z3l hg
   have:=(hR.dN x hx).1
   rw [h1,isCon_no] at this;cases this
 ·exact sInt_ne h.symm
theorem sound_of {c:Core} (hR:Right c) {inp:List (Bs×Val)}:Sound (z0f c) ⟨(z0f c).funs,inp⟩ where
 funs:=rfl
 fOk n f h:=by
  rw [hR.funs] at h
  obtain ⟨x,hx,_,rfl⟩:=z3l h
  have:=hR.fOk x hx
  refine ⟨this,?_⟩
  simp only [z6k,Bool.and_eq_true] at this
  exact type_ne hR this.1.1.2
 dNo:=by
  rw [hR.datas]
  cases hg:lget (ents Data.name id (truthsD::c.datas)) sNo with
  | none=>rfl
  | some d =>
   obtain ⟨x,hx,h1,_⟩:=z3l hg
   have:=(hR.dN x hx).1
   rw [h1,isCon_no] at this;cases this
 dInt:=by
  rw [hR.datas]
  cases hg:lget (ents Data.name id (truthsD::c.datas)) sInt with
  | none=>rfl
  | some d =>
   obtain ⟨x,hx,h1,_⟩:=z3l hg
   exact absurd h1 (hR.dN x hx).2.1
 cD con m h:=by
  rw [hR.cons] at h
  obtain ⟨d,hd,h1,h2,h3⟩:=consE_mem h
  refine ⟨fun e =>?_,h3,h1▸(hR.dN d hd).2.1,d,?_,h2⟩
  ·have:=(hR.dN d hd).2.2.2 _ h2
   rw [h3,e,isCon_no] at this;cases this
  ·rw [hR.datas,h1];exact ents_get (val:=id) hR.dU hd
 dC t d x h hx:=by
  rw [hR.datas] at h
  obtain ⟨d',hd,rfl,rfl⟩:=z3l h
  rw [hR.cons]
  exact consE_get hR.cU hd hx
 cF:=by
  rw [hR.cons]
  exact consE_get hR.cU (d:=truthsD) (x:=⟨sFalse,[]⟩) List.mem_cons_self (by simp [truthsD,sFalse])
 cT:=by
  rw [hR.cons]
  exact consE_get hR.cU (d:=truthsD) (x:=⟨sTrue,[]⟩) List.mem_cons_self (by simp [truthsD,sTrue])
theorem z5y {c:Core} (h:z1g c=0):Right c:=by
 unfold z1g at h
 split at h
 ·cases h
 split at h
 ·cases h
 split at h
 ·rename_i hr;exact right_of hr
 ·cases h
theorem given_closed {c:Core} (hR:Right c) {l:List Named} (hg:z9b (z0f c) l c.inputs=true):Closed (z0f c) ⟨(z0f c).funs,inpP l⟩ (fun _=>True):=by
 obtain ⟨h1,h2⟩:=given_get hg
 refine ⟨fun _ _=>trivial,fun _ _=>trivial,fun {e t} _ _ h =>?_,fun _ _ _=>trivial⟩
 rw [hR.inputs] at h
 obtain ⟨p,hp,h5,rfl⟩:=z3l h
 obtain ⟨x,hx,h3,h4⟩:=h2 p hp
 exact ⟨x.value,by rw [← h5,← h3];exact inpP_get (by rw [h1];exact hR.iU) hx,h4⟩
end Go.Sw

namespace Go.Sw
def Fuels (g0:Nat) (ev:Nat→Ex→Env→Ev Val):Prop:=∀g,g≤g0→∀e env v r,ev g e env=.ok v r→∀r',ev (g - r+r') e env=.ok v r'
theorem each_fuel {g0:Nat} {ev:Nat→Ex→Env→Ev Val} (hf:Fuels g0 ev) (hd:Downs ev) {env:Env}:∀{l:List Ex} {g r:Nat} {vs:List Val},g≤g0→z4c ev env l g=.ok vs r→∀r',z4c ev env l (g - r+r')=.ok vs r'
 | [],g,r,vs,_,h,r'=>by
  simp only [z4c,Ev.ok.injEq] at h ⊢
  exact ⟨h.1,by omega⟩
 | e::es,g,r,vs,hg,h,r'=>by
  obtain ⟨v,g1,h1,h2⟩:=Ev.bind_ok h
  obtain ⟨l,g2,h3,h4⟩:=Ev.bind_ok h2
  simp only [Ev.ok.injEq] at h4
  obtain ⟨rfl,rfl⟩:=h4
  have k1:=hd _ _ _ _ _ h1
  have k2:=z8z hd h3
  have e1:g - g2+r'=g - g1+(g1 - g2+r'):=by omega
  simp only [z4c]
  rw [e1,hf g hg _ _ _ _ h1 (g1 - g2+r')]
  simp only [Ev.bind]
  rw [each_fuel hf hd (by omega) h3 r']
theorem body_fuel {g0:Nat} {ev:Nat→Ex→Env→Ev Val} (hf:Fuels g0 ev) {ns:List Bs} {az:List Val} {env:Env} {b:Ex} {g r:Nat} {v:Val} (hg:g≤g0) (h:z9o ev ns az env b g=.ok v r) (r':Nat) :
  z9o ev ns az env b (g - r+r')=.ok v r':=by
 unfold z9o at h ⊢
 split at h
 ·cases h
 ·exact hf g hg _ _ _ _ h r'
theorem step_fuel {g0:Nat} {ev:Nat→Ex→Env→Ev Val} (hf:Fuels g0 ev) (hd:Downs ev) {C:Ctx} {g r:Nat} {e:Ex} {env:Env} {v:Val} (hg:g≤g0) (h:z3z ev C g e env=.ok v r) (r':Nat) :
  z3z ev C (g - r+r') e env=.ok v r':=by
 have hle:=stepP_le hd h
 unfold z3z at h ⊢
 have triv:∀{x:Val},Ev.ok x g=.ok v r→Ev.ok x (g - r+r')=.ok v r':=fun h=>by
  simp only [Ev.ok.injEq] at h ⊢;exact ⟨h.1,by omega⟩
 split at h
 ·rw [if_pos (by assumption)];exact triv h
 rw [if_neg (by assumption)]
 split at h
 ·rw [if_pos (by assumption)];exact triv h
 rw [if_neg (by assumption)]
 split at h
 ·rw [if_pos (by assumption)];exact triv h
 rw [if_neg (by assumption)]
 split at h
 ·rw [if_pos (by assumption)]
  obtain ⟨l,g1,h1,h2⟩:=Ev.bind_ok h
  simp only [Ev.ok.injEq] at h2
  obtain ⟨rfl,rfl⟩:=h2
  rw [each_fuel hf hd hg h1 r'];rfl
 rw [if_neg (by assumption)]
 split at h
 ·rw [if_pos (by assumption)]
  split at h
  ·cases h
  ·rename_i f hfn
   obtain ⟨l,g1,h1,h2⟩:=Ev.bind_ok h
   have k1:=z8z hd h1
   have k2:=bodyP_lt hd h2
   have e1:g - r+r'=g - g1+(g1 - r+r'):=by omega
   try simp only [hfn]
   rw [e1,each_fuel hf hd hg h1]
   simp only [Ev.bind]
   exact body_fuel hf (by omega) h2 r'
 rw [if_neg (by assumption)]
 split at h
 ·rw [if_pos (by assumption)]
  split at h
  ·rename_i a b l hargs
   obtain ⟨x,g1,h1,h2⟩:=Ev.bind_ok h
   have k1:=hd _ _ _ _ _ h1
   have k2:=hd _ _ _ _ _ h2
   have e1:g - r+r'=g - g1+(g1 - r+r'):=by omega
   try simp only [hargs]
   rw [e1,hf g hg _ _ _ _ h1]
   exact hf g1 (by omega) _ _ _ _ h2 r'
  ·cases h
 rw [if_neg (by assumption)]
 split at h
 ·rw [if_pos (by assumption)]
  split at h
  ·rename_i a l hargs
   obtain ⟨x,g1,h1,h2⟩:=Ev.bind_ok h
   have k1:=hd _ _ _ _ _ h1
   try simp only [hargs]
   split at h2
   ·rename_i hfa
    simp only [Ev.ok.injEq] at h2
    obtain ⟨rfl,rfl⟩:=h2
    rw [hf g hg _ _ _ _ h1]
    simp only [Ev.bind,hfa]
   ·rename_i m hfa
    have k2:=bodyP_lt hd h2
    have e1:g - r+r'=g - g1+(g1 - r+r'):=by omega
    rw [e1,hf g hg _ _ _ _ h1]
    simp only [Ev.bind,hfa]
    exact body_fuel hf (by omega) h2 r'
  ·cases h
 rw [if_neg (by assumption)]
 split at h
 ·rw [if_pos (by assumption)]
  obtain ⟨l,g1,h1,h2⟩:=Ev.bind_ok h
  split at h2
  ·simp only [Ev.ok.injEq] at h2
   obtain ⟨rfl,rfl⟩:=h2
   rw [each_fuel hf hd hg h1 r'];rfl
  ·cases h2
 rw [if_neg (by assumption)]
 exact triv h
theorem eval_fuel (C:Ctx):∀g0,Fuels g0 (z2g C)
 | 0=>fun g hg e env v r h=>by
  have:g=0:=by omega
  subst this;rw [z9t] at h;cases h
 | g0+1=>fun g hg e env v r h r'=>by
  cases g with
  | zero=>rw [z9t] at h;cases h
  | succ g =>
   rw [z0u] at h
   have hle:=stepP_le (z1u C) h
   have e1:g+1 - r+r'=(g - r+r')+1:=by omega
   rw [e1,z0u]
   exact step_fuel (eval_fuel C g0) (z1u C) (by omega) h r'
theorem call_fuel {C:Ctx} {f:Fun} {az:List Val} {g r:Nat} {v:Val} (h:z5e (z2g C) f az g=.ok v r) (r':Nat):z5e (z2g C) f az (g - r+r')=.ok v r' :=
 body_fuel (eval_fuel C g) (Nat.le_refl g) h r'
theorem z9i {C:Ctx} {f:Fun} {az:List Val} {g r:Nat} {v:Val} (h:z5e (z2g C) f az g=.ok v r):r < g:=bodyP_lt (z1u C) h
theorem outs_le {C:Ctx}:∀{os:List Bs} {g r:Nat} {vs:List Val},z3y C os g=.ok vs r→r≤g∧(os≠[]→r < g)
 | [],g,r,vs,h=>by simp only [z3y,Ev.ok.injEq] at h;exact ⟨by omega,fun h=>absurd rfl h⟩
 | o::os,g,r,vs,h=>by
  simp only [z3y] at h
  split at h
  ·cases h
  ·obtain ⟨v,g1,h1,h2⟩:=Ev.bind_ok h
   obtain ⟨l,g2,h3,h4⟩:=Ev.bind_ok h2
   simp only [Ev.ok.injEq] at h4
   have:=z9i h1
   have:=(outs_le h3).1
   exact ⟨by omega,fun _=>by omega⟩
theorem outs_fuel {C:Ctx}:∀{os:List Bs} {g r:Nat} {vs:List Val},z3y C os g=.ok vs r→∀r',z3y C os (g - r+r')=.ok vs r'
 | [],g,r,vs,h,r'=>by
  simp only [z3y,Ev.ok.injEq] at h ⊢
  exact ⟨h.1,by omega⟩
 | o::os,g,r,vs,h,r'=>by
  simp only [z3y] at h ⊢
  split at h
  ·cases h
  ·rename_i f hfn
   obtain ⟨v,g1,h1,h2⟩:=Ev.bind_ok h
   obtain ⟨l,g2,h3,h4⟩:=Ev.bind_ok h2
   simp only [Ev.ok.injEq] at h4
   obtain ⟨rfl,rfl⟩:=h4
   have k1:=z9i h1
   have k2:=(outs_le h3).1
   have e1:g - g2+r'=g - g1+(g1 - g2+r'):=by omega
   try simp only
   rw [e1,call_fuel h1]
   simp only [Ev.bind]
   rw [outs_fuel h3]
theorem callP_ok {c:Core} {P:Ex→Prop} (hR:Right c) {inp:List (Bs×Val)} (hP:Closed (z0f c) ⟨(z0f c).funs,inp⟩ P) {n:Bs} {f:Fun} {vs:List Val} (h:lget (z0f c).funs n=some f) (hb:P f.body) (hv:HasAll (z0f c) vs (f.params.map Param.type)) (g:Nat) :
  Good (z0f c) (z5e (z2g ⟨(z0f c).funs,inp⟩) f vs g) f.result :=
 call_good (sound_of hR) h hb hv (fun e s env t=>sound (sound_of hR) hP g e s env t)
theorem outsOk_get {T:Table}:∀{l seen:List Bs},z6m T seen l=true→∀o∈l,∃f,lget T.funs o=some f∧f.params=[]
 | [],_,_,_,h=>by cases h
 | p::l,seen,hk,o,ho=>by
  simp only [z6m] at hk
  split at hk
  ·cases hk
  ·rename_i f hf
   simp only [Bool.and_eq_true,decide_eq_true_eq] at hk
   rcases List.mem_cons.1 ho with rfl | ho
   ·exact ⟨f,hf,List.eq_nil_of_length_eq_zero hk.1.1⟩
   ·exact outsOk_get hk.2 o ho
theorem outs_ok {c:Core} (hR:Right c) {inp:List (Bs×Val)} (hP:Closed (z0f c) ⟨(z0f c).funs,inp⟩ (fun _=>True)):∀{os:List Bs},(∀o∈os,o∈c.outputs)→∀g,z3y ⟨(z0f c).funs,inp⟩ os g≠.stuck ∧
  ∀vs r,z3y ⟨(z0f c).funs,inp⟩ os g=.ok vs r→All2 (fun o v=>∃f,lget (z0f c).funs o=some f∧hasP (z0f c) v f.result=true) os vs
 | [],_,g=>⟨fun h=>(by cases h),fun vs r h=>by simp only [z3y,Ev.ok.injEq] at h;obtain ⟨rfl,rfl⟩:=h;trivial⟩
 | o::os,ho,g=>by
  obtain ⟨f,hf,hp⟩:=outsOk_get hR.oOk o (ho o List.mem_cons_self)
  obtain ⟨k1,k2⟩:=callP_ok hR hP (vs:=[]) hf trivial (by rw [hp];trivial) g
  simp only [z3y,hf]
  cases hr:z5e (z2g ⟨(z0f c).funs,inp⟩) f [] g with
  | stuck=>exact absurd hr k1
  | spent=>exact ⟨fun h=>(by cases h),fun vs r h=>by cases h⟩
  | ok v g1 =>
   obtain ⟨k3,k4⟩:=outs_ok hR hP (os:=os) (fun x hx=>ho x (List.mem_cons_of_mem _ hx)) g1
   simp only [Ev.bind]
   cases hr2:z3y ⟨(z0f c).funs,inp⟩ os g1 with
   | stuck=>exact absurd hr2 k3
   | spent=>exact ⟨fun h=>(by cases h),fun vs r h=>by cases h⟩
   | ok l g2 =>
    refine ⟨fun h=>(by cases h),fun vs r h =>?_⟩
    simp only [Ev.ok.injEq] at h
    obtain ⟨rfl,rfl⟩:=h
    exact ⟨⟨f,hf,k2 _ _ hr⟩,k4 _ _ hr2⟩
end Go.Sw

namespace Go.Sw
variable {P:Program} {n:Nat} {E:List (Nat×Value)} {D:List Deferred} {a:Act} {Φ Ψ:Fz} {K:List Res} {w:World}
variable {dst:Option Tmp} {ty:TypeId} {pos:String} {aft:Array Edge} {g:Option (Nat×Bool)}
variable {Kn:Value→World→Prop} {Qp:List PanicEntry→World→Prop}
def iget:List (Int×Value)→Int→Option Value
 | [],_=>none
 | (k,v)::m,s=>if s=k then some v else iget m s
def iput:List (Int×Value)→Int→Value→List (Int×Value)
 | [],s,x=>[(s,x)]
 | (k,v)::m,s,x=>if s=k then (k,x)::m else (k,v)::iput m s x
def idel:List (Int×Value)→Int→List (Int×Value)
 | [],_=>[]
 | (k,v)::m,s=>if s=k then m else (k,v)::idel m s
def IMapAt (Φ:Fz) (b:Nat) (m:List (Int×Value)):Prop:=∃es clock,Φ.obj b=some (.map es clock)∧MapOkI es clock m
theorem IMapAt.mono {b:Nat} {m:List (Int×Value)} (h:IMapAt Φ b m) (hl:Φ.Le Ψ):IMapAt Ψ b m:=let ⟨es,c,h1,h2⟩:=h;⟨es,c,hl.obj _ _ h1,h2⟩
def iidx:List (Int×Value)→Int→Nat→Option (Nat×Value)
 | [],_,_=>none
 | (k,v)::m,s,i=>if s=k then some (i,v) else iidx m s (i+1)
theorem findNow_iidx:∀(es:List MapEntry) (m:List (Int×Value)) (s:Int) (i:Nat),es.map (fun e=>(e.key,e.val))=m.map (fun p=>(Value.int .i64 p.1,p.2)) →
  Instr.findNow (.int .i64) (.int .i64 s) es i=some (iidx m s i)
 | [],[],_,_,_=>rfl
 | [],_::_,_,_,h=>by simp at h
 | _::_,[],_,_,h=>by simp at h
 | e::es,(k,v)::m,s,i,h=>by
  simp only [List.map_cons,List.cons.injEq,Prod.mk.injEq] at h
  obtain ⟨⟨h1,h2⟩,h3⟩:=h
  simp only [Instr.findNow,h1,Instr.sameNow,if_true,iidx]
  by_cases hs:s=k
  ·subst hs;simp [h2]
  ·have hb:(s==k)=false:=by simpa using hs
   simp only [hb,if_neg hs]
   exact findNow_iidx es m s (i+1) h3
theorem iidx_iget:∀(m:List (Int×Value)) (s:Int) (i:Nat),(iidx m s i).map (·.2)=iget m s
 | [],_,_=>rfl
 | (k,v)::m,s,i=>by
  simp only [iidx,iget]
  split
  ·rfl
  ·exact iidx_iget m s (i+1)
theorem run_checkKeyI {kt:TypeId} (hk:Under P kt (.int .i64)) (e:Bool) (v:Value) (j:Nat):(Instr.checkKey e (j+1) kt v).run P w=.ok () w:=by
 simp [Instr.checkKey,Sem.run_bind,hk w]
theorem run_findKeyI {kt:TypeId} (hk:Under P kt (.int .i64)) {es:Array MapEntry} {m:List (Int×Value)} (h:es.toList.map (fun e=>(e.key,e.val))=m.map (fun p=>(Value.int .i64 p.1,p.2))) (s:Int) :
  (Instr.findKey kt (.int .i64 s) es.toList).run P w=.ok (iidx m s 0) w:=by
 simp [Instr.findKey,Sem.run_bind,hk w,findNow_iidx _ _ _ _ h]
theorem run_lookupI {t kt et:TypeId} {b:Nat} {es:Array MapEntry} {clock:Nat} {m:List (Int×Value)} {z:Value} (ht:Under P t (.map kt et)) (hk:Under P kt (.int .i64)) (hz:ZeroT P et z)
  (hb:w.heap[b]? = some (.map es clock)) (h:MapOkI es clock m) (s:Int) (ok:Bool) :
  (Instr.lookup t (.map (some b)) (.int .i64 s) ok).run P w=.ok (z0i ok z (iget m s)) w:=by
 have h1:(getObj b).run P w=.ok (.map es clock) w:=by simp [getObj,Sem.run,hb]
 simp only [Instr.lookup,Sem.run_bind,ht w,Result.andThen_ok,h1,Sem.run_pure,run_checkKeyI hk,run_findKeyI hk h.eq]
 have:=iidx_iget m s 0
 cases hm:iidx m s 0 with
 | none=>rw [hm] at this;simp only [Option.map_none] at this;rw [← this];simp [hz w,z0i]
 | some p=>rw [hm] at this;simp only [Option.map_some] at this;rw [← this];simp [z0i]
theorem z2x (i:Nat) {t kt et:TypeId} {x y:Operand} {b:Nat} {m:List (Int×Value)} {z:Value} {s:Int} {ok:Bool} (ht:Under P t (.map kt et)) (hk:Under P kt (.int .i64)) (hz:ZeroT P et z)
  (he:EnvR n E D a) (hm:Sees Φ K w) (hx:ev E x=some (.map (some b))) (hy:ev E y=some (.int .i64 s)) (hK:kget K i=some (.imp b m)):Ok P a (.lookup t x y ok) ty w (z0i ok z (iget m s)):=fun _ _ _ _=>by
 obtain ⟨es,clock,h1,h2⟩:=hm.own _ (z1a hK)
 simp only [execOp,he.ev hx,he.ev hy]
 simp [Sem.run_bind,run_lookupI ht hk hz h1 h2]
theorem eff_makeMapI {t:TypeId} (hm:Mem Φ K w) (k:∀b w',Mem Φ (.imp b []::K) w'→Kn (.map (some b)) w'):Oper.eff P ⟨dst,.makeMap t none,ty,pos,aft,g⟩ a w Kn Qp:=by
 unfold Oper.eff
 have:(execOp a.eval ⟨dst,.makeMap t none,ty,pos,aft,g⟩).run P w=.ok (.value (.map (some w.heap.size))) { w with heap:=w.heap.push (.map #[] 0) }:=by
  simp [execOp,Instr.makeMap]
 rw [this]
 refine k _ _ (hm.more rfl rfl (fun b hb=>z7m hb) ⟨#[],0,by simp,by simp,by simp,by simp⟩ (by simp [Res.foot]))
theorem iput_eq:∀(m:List (Int×Value)) (s:Int) (v:Value) (j:Nat),iput m s v=match iidx m s j with | none=>m++[(s,v)] | some (i,_)=>m.set (i - j) (s,v)
 | [],_,_,_=>rfl
 | (k,x)::m,s,v,j=>by
  simp only [iput,iidx]
  split
  ·subst_vars;simp
  ·have:=iput_eq m s v (j+1)
   rw [this]
   have hge:∀(m:List (Int×Value)) (j i:Nat) (y:Value),iidx m s j=some (i,y)→j≤i:=by
    intro m
    induction m with
    | nil=>intro j i y h;simp [iidx] at h
    | cons p m ih =>
     intro j i y h
     obtain ⟨k,x⟩:=p
     simp only [iidx] at h
     split at h
     ·simp only [Option.some.injEq,Prod.mk.injEq] at h;omega
     ·have:=ih (j+1) i y h;omega
   cases hm:iidx m s (j+1) with
   | none=>simp
   | some p =>
    obtain ⟨i,y⟩:=p
    have h1:=hge m (j+1) i y hm
    have e:i - j=(i - (j+1))+1:=by omega
    simp only [e,List.set_cons_succ]
theorem iidx_key:∀(m:List (Int×Value)) (s:Int) (j i:Nat) (y:Value),iidx m s j=some (i,y)→m[i - j]? = some (s,y)∧j≤i
 | [],_,_,_,_,h=>by simp [iidx] at h
 | (k,x)::m,s,j,i,y,h=>by
  simp only [iidx] at h
  split at h
  ·simp only [Option.some.injEq,Prod.mk.injEq] at h
   obtain ⟨rfl,rfl⟩:=h;subst_vars;simp
  ·obtain ⟨h1,h2⟩:=iidx_key m s (j+1) i y h
   have e:i - j=(i - (j+1))+1:=by omega
   exact ⟨by rw [e];simpa using h1,by omega⟩
theorem eff_mapUpdateI (i:Nat) {t kt et:TypeId} {x y z:Operand} {b:Nat} {m:List (Int×Value)} {s:Int} {v:Value} (ht:Under P t (.map kt et)) (hk:Under P kt (.int .i64))
  (he:EnvR n E D a) (hm:Mem Φ K w) (hx:ev E x=some (.map (some b))) (hy:ev E y=some (.int .i64 s)) (hz:ev E z=some v) (hK:kget K i=some (.imp b m))
  (k:∀w',Mem Φ (kset K i (.imp b (iput m s v))) w'→Kn undef w'):Oper.eff P ⟨dst,.mapUpdate t x y z,ty,pos,aft,g⟩ a w Kn Qp:=by
 obtain ⟨es,clock,hb,hok⟩:=hm.own _ (z1a hK)
 have h1:(getObj b).run P w=.ok (.map es clock) w:=by simp [getObj,Sem.run,hb]
 have hlt:b < w.heap.size:=(Array.getElem?_eq_some_iff.1 hb).1
 have hset:∀o,(setObj b o).run P w=.ok () { w with heap:=w.heap.setIfInBounds b o }:=fun o=>by simp only [setObj,Sem.run,hb]
 have fin:∀es' clock',MapOkI es' clock' (iput m s v)→Mem Φ (kset K i (.imp b (iput m s v))) { w with heap:=w.heap.setIfInBounds b (.map es' clock') }:=fun es' clock' h =>
  hm.upd hK rfl rfl (fun c hc hne=>by simp only;rw [Array.getElem?_setIfInBounds_ne (fun e=>hne (by simp [Res.foot,e]))]) ⟨es',clock',by simp [hlt],h⟩ (.inl rfl)
 unfold Oper.eff
 simp only [execOp,he.ev hx,he.ev hy,he.ev hz,Instr.mapUpdate,Sem.run_bind,ht w,Result.andThen_ok,h1,run_checkKeyI hk,run_findKeyI hk hok.eq]
 have hput:=iput_eq m s v 0
 cases hmx:iidx m s 0 with
 | none =>
  rw [hmx] at hput
  simp only at hput
  simp only [hset,Result.andThen_ok,Sem.run_pure,z6a]
  refine k _ (fin _ _ ⟨?_,?_,?_⟩)
  ·rw [hput];simp [hok.eq]
  ·intro e he
   simp only [Array.toList_push,List.mem_append,List.mem_singleton] at he
   rcases he with he | rfl
   ·have:=hok.old e he;omega
   ·simp
  ·simp only [Array.toList_push,List.map_append,List.map_cons,List.map_nil]
   rw [List.nodup_append]
   refine ⟨hok.nodup,by simp,fun b hb c hc hbc =>?_⟩
   simp only [List.mem_singleton] at hc
   obtain ⟨e,he,rfl⟩:=List.mem_map.1 hb
   have:=hok.old e he
   omega
 | some p =>
  obtain ⟨j,y⟩:=p
  rw [hmx] at hput
  simp only [Nat.sub_zero] at hput
  obtain ⟨hj,_⟩:=iidx_key m s 0 j y hmx
  simp only [Nat.sub_zero] at hj
  have hes:es.toList[j]?.map (fun e=>(e.key,e.val))=some (Value.int .i64 s,y):=by
   rw [← List.getElem?_map,hok.eq,List.getElem?_map,hj];rfl
  obtain ⟨e,hje,hee⟩:∃e,es[j]? = some e∧e.key=.int .i64 s:=by
   cases h:es[j]? with
   | none =>
    have h':es.toList[j]? = none:=by simpa using h
    rw [h'] at hes;cases hes
   | some e =>
    have h':es.toList[j]? = some e:=by simpa using h
    rw [h'] at hes;simp only [Option.map_some,Option.some.injEq,Prod.mk.injEq] at hes;exact ⟨e,rfl,hes.1⟩
  have hks:(Instr.keyThatStays (((es[j]?).map (·.key)).getD (.int .i64 s)) (.int .i64 s)).run P w=.ok (.int .i64 s) w:=by
   simp [hje,hee,Instr.keyThatStays,Instr.sameBits,y0k]
  simp only [Sem.run_bind,hks,hset,Result.andThen_ok,Sem.run_pure,z6a]
  have hjl:j < es.size:=(Array.getElem?_eq_some_iff.1 hje).1
  have hml:(es.modify j fun e=>{ e with key:=Value.int .i64 s,val:=v }).toList=es.toList.modify j (fun e=>{ e with key:=Value.int .i64 s,val:=v }):=by simp
  refine k _ (fin _ _ ⟨?_,?_,?_⟩)
  ·rw [hml,hput]
   apply List.ext_getElem?
   intro q
   have hq:es.toList[q]?.map (fun e=>(e.key,e.val))=m[q]?.map (fun p=>(Value.int .i64 p.1,p.2)):=by rw [← List.getElem?_map,hok.eq,List.getElem?_map]
   simp only [List.getElem?_map,List.getElem?_modify,List.getElem?_set]
   by_cases hjq:j=q
   ·subst hjq
    have hml':j < m.length:=(List.getElem?_eq_some_iff.1 hj).1
    have h':es.toList[j]? = some e:=by simpa using hje
    simp [h',hml']
   ·have hq':=hq
    simp only [Array.getElem?_toList] at hq'
    simp [hjq,hq']
  ·intro x hx
   rw [hml] at hx
   obtain ⟨q,hq⟩:=List.mem_iff_getElem?.1 hx
   rw [List.getElem?_modify] at hq
   cases hz':es.toList[q]? with
   | none=>rw [hz'] at hq;simp at hq
   | some e' =>
    rw [hz'] at hq
    have hb':=hok.old e' (List.mem_of_getElem? hz')
    have hq2:=Option.some.inj hq
    rw [← hq2]
    show (if j=q then _ else _:MapEntry).born < clock
    by_cases hjq:j=q
    ·rw [if_pos hjq];exact hb'
    ·rw [if_neg hjq];exact hb'
  ·rw [hml]
   have:(es.toList.modify j (fun e=>{ e with key:=Value.int .i64 s,val:=v })).map (·.born)=es.toList.map (·.born):=by
    apply List.ext_getElem?
    intro q
    simp only [List.getElem?_map,List.getElem?_modify]
    cases es.toList[q]? with
    | none=>simp
    | some e'=>simp;split <;> rfl
   rw [this];exact hok.nodup
theorem z4k (i:Nat) {t kt et:TypeId} {x y z:Operand} {b:Nat} {m:List (Int×Value)} {s:Int} {v:Value} (ht:Under P t (.map kt et)) (hk:Under P kt (.int .i64))
  (he:EnvR n E D a) (hm:Mem Φ K w) (hx:ev E x=some (.map (some b))) (hy:ev E y=some (.int .i64 s)) (hz:ev E z=some v) (hK:kget K i=some (.imp b m))
  (k:∀w',Mem Φ (kset K i (.imp b (iput m s v))) w'→Kn undef w'):Oper.eff P ⟨dst,.insert t x y z,ty,pos,aft,g⟩ a w Kn Qp :=
 show Oper.eff P ⟨dst,.mapUpdate t x y z,ty,pos,aft,g⟩ a w Kn Qp from eff_mapUpdateI i ht hk he hm hx hy hz hK k
end Go.Sw

namespace Go.Sw
theorem Row.one {Φ:Fz} {v:Value} {k:Nat} {cs:List Value} (h:Row Φ v k cs):Value.oneCell' v=true:=by
 rcases h with ⟨rfl,_⟩ | ⟨q,m,c,rfl,_⟩ <;> rfl
theorem SliceOf.one {α:Type} {R:Fz→List Value→α→Prop} {Φ:Fz} {k:Nat} {v:Value} {xs:List α} (h:SliceOf R Φ k v xs):Value.oneCell' v=true :=
 let ⟨_,h1,_⟩:=h;h1.one
def Ones {α:Type} (R:Fz→List Value→α→Prop):Prop:=∀Φ c x,R Φ c x→c.all Value.oneCell'=true
theorem Chunks.ones {α:Type} {R:Fz→List Value→α→Prop} (hR:Ones R) {Φ:Fz} {k:Nat}:∀{xs:List α} {cs:List Value},Chunks (R Φ) k cs xs→cs.all Value.oneCell'=true
 | [],cs,h=>by simp only [Chunks] at h;subst h;rfl
 | x::xs,cs,⟨c,rest,h1,_,h3,h4⟩=>by
  subst h1
  rw [List.all_append,hR _ _ _ h3,Chunks.ones hR h4];rfl
theorem RStr.ones:Ones RStr:=fun _ c x h=>by cases h;rfl
theorem RVal.ones:Ones RVal:=fun _ c x h=>by
 obtain ⟨s,rfl,_,h1⟩:=RVal.iff.1 h
 simp only [List.all_cons,h1.one];rfl
theorem REx.ones:Ones REx:=fun _ c x h=>by
 obtain ⟨s,t,rfl,_,h1,h2⟩:=REx.iff.1 h
 simp only [List.all_cons,h1.one,h2.one];rfl
theorem RArm.ones:Ones RArm:=fun Φ c x h=>by
 obtain ⟨s,b,rfl,h1,h2⟩:=RArm.iff.1 h
 have:=REx.ones Φ b x.body h2
 simp only [List.all_cons,h1.one,this];rfl
theorem RParam.ones:Ones RParam:=fun _ c x h=>by cases h;rfl
theorem RCon.ones:Ones RCon:=fun _ c x h=>by
 obtain ⟨s,rfl,h1⟩:=h
 simp only [List.all_cons,h1.one];rfl
theorem RData.ones:Ones RData:=fun _ c x h=>by
 obtain ⟨s,rfl,h1⟩:=h
 simp only [List.all_cons,h1.one];rfl
theorem RFun.ones:Ones RFun:=fun Φ c x h=>by
 obtain ⟨s,b,rfl,h1,h2⟩:=h
 have:=REx.ones Φ b x.body h2
 simp only [List.all_cons,h1.one,this];rfl
theorem RNamed.ones:Ones RNamed:=fun Φ c x h=>by
 obtain ⟨b,rfl,h2⟩:=h
 have:=RVal.ones Φ b x.value h2
 simp only [List.all_cons,this];rfl
section
variable {P:Program} {n:Nat} {E:List (Nat×Value)} {D:List Deferred} {a:Act} {Φ Ψ:Fz} {K:List Res} {w:World}
end
theorem y0c (ok:Bool) (ds:List (Bs×Data)) (m:List (Bs×Maker)) (d:Data) (l:List Data) :
  tabD ok ds m (d::l)=tabD (tabC d.name (tabOk ok ds d) m d.cons).1 (z7i ok ds d) (tabC d.name (tabOk ok ds d) m d.cons).2 l:=rfl
theorem table_eq {c:Core} {l1:List (Bs×Data)} {l2:List (Bs×Maker)} {o1 o2 o3:Bool} {l3:List (Bs×Fun)} {l4:List (Bs×Bs)} (h1:tabD true [] [] (truthsD::c.datas)=(o1,l1,l2)) (h2:tabF o1 [] c.funs=(o2,l3)) (h3:tabI o2 [] c.inputs=(o3,l4)) :
  z0f c=⟨c,l1,l2,l3,l4⟩∧z4s c=o3:=by
 have e1:dsP c=(o1,l1,l2):=h1
 have e2:fsP c=(o2,l3):=by unfold fsP;rw [e1];exact h2
 have e3:isP c=(o3,l4):=by unfold isP;rw [e2];exact h3
 unfold z0f z4s
 rw [e1,e2,e3];exact ⟨rfl,rfl⟩
end Go.Sw

namespace Go.Sw
mutual
theorem meas_bind:∀(e:Ex) (l:Int),(meas e l).1=false→((z0n e).length:Int)+16+17 * (meas e l).2≤17 * l
 | .mk k n s args arms,l=>by
  intro h
  rw [meas_eq] at h ⊢
  by_cases hl:l - 1 < 0
  ·rw [if_pos hl] at h;cases h
  ·rw [if_neg hl] at h ⊢
   simp only [Ex.args,Ex.arms] at h ⊢
   have h1:=meass_bind args (l - 1)
   cases hm:meass args (l - 1) with
   | mk b q =>
    rw [hm] at h h1
    cases b with
    | true=>cases h
    | false =>
     have h2:=measa_bind arms q h
     have h3:=h1 rfl
     simp only [measThen] at h h2 h3 ⊢
     simp only [z0n,List.length_append]
     split <;> simp <;> omega
theorem meass_bind:∀(es:List Ex) (l:Int),(meass es l).1=false→((bindPs es).length:Int)+17 * (meass es l).2≤17 * l
 | [],l=>by intro _;simp [meass,bindPs]
 | e::es,l=>by
  intro h
  rw [meass_cons] at h ⊢
  by_cases hb:(meas e l).1=true
  ·rw [if_pos hb] at h;cases h
  ·rw [if_neg hb] at h ⊢
   have h1:=meas_bind e l (by simpa using hb)
   have h2:=meass_bind es _ h
   simp only [bindPs,List.length_append]
   omega
theorem measa_bind:∀(es:List Arm) (l:Int),(measa es l).1=false→((bindPa es).length:Int)+17 * (measa es l).2≤17 * l
 | [],l=>by intro _;simp [measa,bindPa]
 | .mk c vs b::es,l=>by
  intro h
  have e:=z9x (.mk c vs b) es l
  change measa (.mk c vs b::es) l=(if 16 < vs.length then (true,l) else if (meas b l).1 then (true,(meas b l).2) else measa es (meas b l).2) at e
  rw [e] at h ⊢
  by_cases hv:16 < vs.length
  ·rw [if_pos hv] at h;cases h
  ·rw [if_neg hv] at h ⊢
   by_cases hb:(meas b l).1=true
   ·rw [if_pos hb] at h;cases h
   ·rw [if_neg hb] at h ⊢
    have h1:=meas_bind b l (by simpa using hb)
    have h2:=measa_bind es _ h
    simp only [bindPa,List.length_append]
    omega
end
theorem measF_get:∀{fs:List Fun} {l:Int},measF fs l=false→l≤6000→∀f∈fs,f.params.length≤16∧(z0n f.body).length≤102000
 | [],_,_,_,_,h=>by cases h
 | g::fs,l,h,hl,f,hf=>by
  simp only [measF,Bool.or_eq_false_iff,decide_eq_false_iff_not] at h
  have h1:=meas_bind g.body l h.1.2
  have h2:=z4n g.body l h.1.2
  rcases List.mem_cons.1 hf with rfl | hf
  ·exact ⟨by omega,by omega⟩
  ·exact measF_get h.2 (by omega) f hf
theorem long_fun {c:Core} (h:z4y c=false) {f:Fun} (hf:f∈c.funs):f.params.length≤16∧(z0n f.body).length≤102000:=by
 simp only [z4y,Bool.or_eq_false_iff] at h
 exact measF_get h.2 (by omega) f hf
theorem z8p {c:Core} (h:z4s c=true) {n:Bs} {f:Fun} (hf:lget (z0f c).funs n=some f):f∈c.funs:=by
 obtain ⟨i1,_⟩:=tabI_inv (show (tabI (fsP c).1 [] c.inputs).1=true from h)
 obtain ⟨_,f2,_⟩:=tabF_inv (show (tabF (dsP c).1 [] c.funs).1=true from i1)
 have e:(z0f c).funs=ents Fun.name id c.funs:=f2
 rw [e] at hf
 obtain ⟨x,hx,_,rfl⟩:=z3l hf
 exact hx
theorem table_params {c:Core} (hl:z4y c=false) (h:z4s c=true):∀n f,lget (z0f c).funs n=some f→f.params.length≤1000:=fun n f hf=>by
 have:=(long_fun hl (z8p h hf)).1;omega
theorem z4v {α:Type} {l:List α} {p:α→Bool} {i:Nat} {x:α} (h:l[i]? = some x):(l.drop i).all p=(p x&&(l.drop (i+1)).all p):=by
 rw [z0a h];rfl
theorem all_end {α:Type} {l:List α} {p:α→Bool} {i:Nat} (h:¬i < l.length):(l.drop i).all p=true:=by
 rw [z0g h];rfl
theorem all_of_anyF {α:Type} {l:List α} {p:α→Bool} (h:l.any (fun x => !p x)=false):l.all p=true:=by
 induction l with
 | nil=>rfl
 | cons x l ih =>
  simp only [List.any_cons,Bool.or_eq_false_iff,Bool.not_eq_false'] at h
  simp only [List.all_cons,h.1,ih h.2];rfl
theorem all_of_anyT {α:Type} {l:List α} {p:α→Bool} (h:l.any (fun x => !p x)=true):l.all p=false:=by
 induction l with
 | nil=>cases h
 | cons x l ih =>
  simp only [List.any_cons,Bool.or_eq_true,Bool.not_eq_true'] at h
  simp only [List.all_cons]
  rcases h with h | h
  ·rw [h];rfl
  ·rw [ih h];simp
end Go.Sw

namespace Go.Sw
def eqF {α β:Type} (p:α→β→Bool):List α→List β→Bool
 | [],[]=>true
 | x::xs,y::ys=>p x y&&eqF p xs ys
 | _,_=>false
theorem eqF_len {α β:Type} {p:α→β→Bool}:∀{l:List α} {m:List β},l.length≠m.length→eqF p l m=false
 | [],[],h=>absurd rfl h
 | [],_::_,_=>rfl
 | _::_,[],_=>rfl
 | x::xs,y::ys,h=>by simp only [eqF,eqF_len (l:=xs) (m:=ys) (by simpa using h),Bool.and_false]
theorem givenP_eq (T:Table):∀(l:List Named) (ps:List Param),z9b T l ps=eqF (fun v p=>decide (v.name=p.name) && !z6e v.value&&hasP T v.value p.type) l ps
 | [],[]=>rfl
 | v::vs,p::ps=>by simp only [z9b,eqF,givenP_eq T vs ps]
 | [],_::_=>rfl
 | _::_,[]=>rfl
theorem givenA_eq (T:Table):∀(l:List Val) (ps:List Param),givenA T l ps=eqF (fun v p => !z6e v&&hasP T v p.type) l ps
 | [],[]=>rfl
 | v::vs,p::ps=>by simp only [givenA,eqF,givenA_eq T vs ps]
 | [],_::_=>rfl
 | _::_,[]=>rfl
theorem larges_hit:∀(l:List Val) (s:Int) (i:Nat),(larges l s).1=hitF (fun s x=>z3t x s) s l∧(larges l s).2=(z1k (fun s x=>z3t x s) s l i).2
 | [],s,i=>⟨rfl,rfl⟩
 | v::vs,s,i=>by
  simp only [larges,hitF,z1k]
  cases h:z3t v s with
  | mk b q=>cases b with
   | true=>exact ⟨rfl,rfl⟩
   | false=>exact larges_hit vs q (i+1)
theorem largeS_eq (v:Val) (l:Int):z3t v l=if IntKind.i64.wrap (l - 1) < 0 then (true,IntKind.i64.wrap (l - 1)) else larges v.args (IntKind.i64.wrap (l - 1)):=by
 cases v;rfl
end Go.Sw

namespace Go.Sw
section
variable {P:Program} {n:Nat} {E:List (Nat×Value)} {D:List Deferred} {a:Act} {Φ Ψ:Fz} {K K':List Res} {w:World}
variable {Kn:Value→World→Prop} {Qp:List PanicEntry→World→Prop} {dst:Option Tmp} {ty:TypeId} {pos:String} {aft:Array Edge} {g:Option (Nat×Bool)}
variable {f:FuncId} {xs:Array Operand} {ts:Array TypeId} {vs fs cs:List Value} {y:Operand}
theorem z9s {β:Type} {X:β→Value} {F1:β→Fz} {KO:β→List Res} {G:β→Prop} (he:EnvR n E D a) (hy:ev E y=some (.func (.func f) fs.toArray cs.toArray)) (hx:evs E xs.toList=some vs) (hf:∀args w,(callFunc f args).run P w=.ok (.enter f args) w)
  (hc:Calls P f (fs++vs++cs).toArray w (fun e w'=>∃y,e=.returned (X y)∧G y∧Mem (F1 y) (KO y) w')) (k:∀y w',G y→Mem (F1 y) (KO y) w'→Kn (X y) w') :
  Oper.eff P ⟨dst,.call { callee:=.value y,args:=xs,argTypes:=ts },ty,pos,aft,g⟩ a w Kn Qp :=
 eff_callv he hy hx hf hc (fun v w' h=>by obtain ⟨y,h1,h2,h3⟩:=h;cases h1;exact k _ _ h2 h3) (fun c w' h=>by obtain ⟨y,h1,_⟩:=h;cases h1) (fun w' h=>by obtain ⟨y,h1,_⟩:=h;cases h1)
theorem Sees.gsSome {i j m c k:Nat} {p:Option Addr} {T:TypeId} {cells:List Value} (hm:Sees Φ K w) (hk:kget K i=some (.gs (.slice p m c) T k cells)) (hj:j < m):∃q,p=some q:=by
 obtain ⟨nn,_,h2⟩:=hm.own _ (z1a hk)
 rcases h2 with ⟨h,_⟩ | ⟨b,cap,cur,h,_⟩
 ·simp only [Value.slice.injEq] at h;omega
 ·simp only [Value.slice.injEq] at h;exact ⟨_,h.1⟩
theorem y_load_gs (i j:Nat) {x:Operand} {T T0:TypeId} {q:Addr} {m c k:Nat} {cells:List Value} {v:Value} (he:EnvR n E D a) (hm:Sees Φ K w)
  (hx:ev E x=some (.pointer (some (q.add (j * k))))) (hk:kget K i=some (.gs (.slice (some q) m c) T0 k cells)) (hv:cells[j * k]? = some v) (hT:Scalar P T):Ok P a (.load T x) ty w v:=fun _ _ _ _=>by
 have h1:w.cell? (q.add (j * k))=some v:=by
  rcases hm.rowIn hk with ⟨h,_⟩ | ⟨q',m',c',h,_,h3⟩
  ·cases h
  ·simp only [Value.slice.injEq,Option.some.injEq] at h
   obtain ⟨rfl,rfl,rfl⟩:=h
   exact h3 _ _ hv
 simp only [execOp,he.ev hx]
 simp [Instr.loadAt,Instr.sureAddr,loadVar,Sem.run_bind,hT w,Result.andThen,load,Sem.run,h1]
end
def ints (l:List Int):List Value:=l.map (.int .i64)
theorem ints_length (l:List Int):(ints l).length=l.length:=by simp [ints]
def totalP (l:List Int):Int:=l.foldl (fun a x=>IntKind.i64.wrap (a+x)) 0
theorem hasP_eq (T:Table) (v:Val) (name:Bs):hasP T v name =
  if v.con=sNo∨name=sInt then decide (v.con=sNo)&&decide (name=sInt)&&decide (v.args.length=0)
  else match lget T.cons v.con with
   | none=>false
   | some m=>decide (m.data=name)&&decide (v.num=0)&&decide (m.con.fields.length=v.args.length)&&hasL T v.args m.con.fields:=by
 cases v;rfl
theorem hasL_cons (T:Table) (v:Val) (vs:List Val) (f:Bs) (fs:List Bs):hasL T (v::vs) (f::fs)=(hasP T v f&&hasL T vs fs):=rfl
def Small (v:Val):Prop:=∃l:Int,0≤l∧l≤4000∧(z3t v l).1=false
mutual
theorem largeS_le:∀(v:Val) (l:Int),0≤l→l≤4000→(z3t v l).1=false→0≤(z3t v l).2∧(z3t v l).2 < l
 | .mk c n args,l=>by
  intro h0 h1 h
  simp only [z3t] at h ⊢
  have hw:IntKind.i64.wrap (l - 1)=l - 1:=z1d (by omega)
  rw [hw] at h ⊢
  split at h
  ·cases h
  ·rename_i hl
   rw [if_neg hl]
   have:=larges_le args (l - 1) (by omega) (by omega) h
   omega
theorem larges_le:∀(vs:List Val) (l:Int),0≤l→l≤4000→(larges vs l).1=false→0≤(larges vs l).2∧(larges vs l).2+vs.length≤l
 | [],l=>by intro h0 _ _;simp only [larges];simp;omega
 | v::vs,l=>by
  intro h0 h1 h
  simp only [larges] at h ⊢
  have k1:=largeS_le v l h0 h1
  cases hm:z3t v l with
  | mk b q =>
   rw [hm] at h k1
   cases b with
   | true=>cases h
   | false =>
    have k2:=k1 rfl
    simp only at k2 h ⊢
    have k3:=larges_le vs q (by omega) (by omega) h
    simp only [List.length_cons]
    omega
end
theorem larges_small:∀{vs:List Val} {l:Int},0≤l→l≤4000→(larges vs l).1=false→∀x∈vs,Small x
 | [],_,_,_,_,x,hx=>by cases hx
 | v::vs,l,h0,h1,h,x,hx=>by
  simp only [larges] at h
  have k1:=largeS_le v l h0 h1
  cases hm:z3t v l with
  | mk b q =>
   rw [hm] at h k1
   cases b with
   | true=>cases h
   | false =>
    have k2:=k1 rfl
    simp only at k2 h
    rcases List.mem_cons.1 hx with rfl | hx
    ·exact ⟨l,h0,h1,by rw [hm]⟩
    ·exact larges_small (l:=q) (by omega) (by omega) h x hx
theorem small_args {v:Val} (h:Small v):v.args.length≤4000∧∀x∈v.args,Small x:=by
 obtain ⟨l,h0,h1,h⟩:=h
 rw [largeS_eq,show IntKind.i64.wrap (l - 1)=l - 1 from z1d (by omega)] at h
 split at h
 ·cases h
 ·have:=larges_le v.args (l - 1) (by omega) (by omega) h
  exact ⟨by omega,larges_small (by omega) (by omega) h⟩
theorem small_of {v:Val} (h:z6e v=false):Small v:=⟨4000,by omega,by omega,h⟩
def Short (e:Ex):Prop:=∃l:Int,l≤6000∧(meas e l).1=false
theorem meass_short:∀{es:List Ex} {l:Int},l≤6000→(meass es l).1=false→0≤l→((es.length:Int)≤l)∧∀x∈es,Short x
 | [],l,_,_,h0=>⟨by simpa using h0,fun x hx=>by cases hx⟩
 | e::es,l,h1,h,h0=>by
  rw [meass_cons] at h
  by_cases hb:(meas e l).1=true
  ·rw [if_pos hb] at h;cases h
  ·have hb':(meas e l).1=false:=by simpa using hb
   rw [if_neg hb] at h
   have k1:=z4n e l hb'
   have k2:(meas e l).2 < l:=by
    rw [meas_eq] at hb' k1 ⊢
    by_cases hl:l - 1 < 0
    ·rw [if_pos hl] at hb';cases hb'
    ·rw [if_neg hl] at hb' k1 ⊢
     cases hm:meass e.args (l - 1) with
     | mk b q =>
      have k3:=meass_le e.args (l - 1)
      rw [hm] at hb' k1 k3
      cases b with
      | true=>cases hb'
      | false =>
       have k4:=k3 rfl (by omega)
       simp only [measThen] at hb' k1 k4 ⊢
       have k5:=measa_le e.arms q hb' (by omega)
       omega
   obtain ⟨k3,k4⟩:=meass_short (l:=(meas e l).2) (by omega) h (by omega)
   refine ⟨by simp only [List.length_cons];omega,fun x hx =>?_⟩
   rcases List.mem_cons.1 hx with rfl | hx
   ·exact ⟨l,h1,hb'⟩
   ·exact k4 x hx
theorem measa_short:∀{es:List Arm} {l:Int},l≤6000→(measa es l).1=false→0≤l→∀a∈es,Short a.body∧a.vars.length≤16
 | [],l,_,_,_,a,ha=>by cases ha
 | b::es,l,h1,h,h0,a,ha=>by
  rw [z9x] at h
  by_cases hv:16 < b.vars.length
  ·rw [if_pos hv] at h;cases h
  ·rw [if_neg hv] at h
   by_cases hb:(meas b.body l).1=true
   ·rw [if_pos hb] at h;cases h
   ·rw [if_neg hb] at h
    have hb':(meas b.body l).1=false:=by simpa using hb
    have k1:=z4n b.body l hb'
    rcases List.mem_cons.1 ha with rfl | ha
    ·exact ⟨⟨l,h1,hb'⟩,by omega⟩
    ·exact measa_short (l:=(meas b.body l).2) (by omega) h (by omega) a ha
theorem z3g {e:Ex} (h:Short e):e.args.length≤6000∧(∀x∈e.args,Short x)∧∀a∈e.arms,Short a.body∧a.vars.length≤16:=by
 obtain ⟨l,h1,h⟩:=h
 rw [meas_eq] at h
 by_cases hl:l - 1 < 0
 ·rw [if_pos hl] at h;cases h
 ·rw [if_neg hl] at h
  cases hm:meass e.args (l - 1) with
  | mk b q =>
   rw [hm] at h
   cases b with
   | true=>cases h
   | false =>
    have k1:=meass_short (es:=e.args) (l:=l - 1) (by omega) (by rw [hm]) (by omega)
    have k2:=meass_le e.args (l - 1) (by rw [hm]) (by omega)
    rw [hm] at k2
    simp only [measThen] at h k2
    exact ⟨by omega,k1.2,measa_short (by omega) h (by omega)⟩
theorem measF_short:∀{fs:List Fun} {l:Int},measF fs l=false→l≤6000→∀f∈fs,Short f.body
 | [],_,_,_,_,h=>by cases h
 | g::fs,l,h,hl,f,hf=>by
  simp only [measF,Bool.or_eq_false_iff,decide_eq_false_iff_not] at h
  have h2:=z4n g.body l h.1.2
  rcases List.mem_cons.1 hf with rfl | hf
  ·exact ⟨l,hl,h.1.2⟩
  ·exact measF_short h.2 (by omega) f hf
theorem z9w {c:Core} (h:z4y c=false) {f:Fun} (hf:f∈c.funs):Short f.body:=by
 simp only [z4y,Bool.or_eq_false_iff] at h
 exact measF_short h.2 (by omega) f hf
end Go.Sw

namespace Go.Sw
def REnv (Φ:Fz):Env→Option Addr→Prop
 | [],o=>o=none
 | (n,x)::env,o=>∃p c o',o=some p∧At Φ p (.string n::c++[.pointer o'])∧c.length=3∧RVal Φ c x∧REnv Φ env o'
theorem REnv.mono {Φ Ψ:Fz} (hl:Φ.Le Ψ):∀{env:Env} {o:Option Addr},REnv Φ env o→REnv Ψ env o
 | [],_,h=>h
 | (_,_)::_,_,⟨p,c,o',h1,h2,h3,h4,h5⟩=>⟨p,c,o',h1,h2.mono hl,h3,RVal.mono _ _ _ _ hl h4,REnv.mono hl h5⟩
def RGiven (Φ:Fz) (v:Value) (inp:List (Bs×Val)):Prop:=(∃b d,v=.map (some b)∧MapAt Φ b d∧MapRel (RVa RVal Φ) d inp)∨(v=.map none∧inp=[])
theorem RGiven.mono {Φ Ψ:Fz} (hl:Φ.Le Ψ) {v:Value} {inp:List (Bs×Val)} (h:RGiven Φ v inp):RGiven Ψ v inp:=by
 rcases h with ⟨b,d,h1,h2,h3⟩ | h
 ·exact .inl ⟨b,d,h1,h2.mono hl,h3.mono (RVa.mono RVal.mono hl)⟩
 ·exact .inr h
theorem RGiven.one {Φ:Fz} {v:Value} {inp:List (Bs×Val)} (h:RGiven Φ v inp):Value.oneCell' v=true:=by
 rcases h with ⟨b,d,h1,_⟩ | h
 ·subst h1;rfl
 ·rw [h.1];rfl
theorem RGiven.cells {Φ:Fz} {v:Value} {inp:List (Bs×Val)} (h:RGiven Φ v inp):v.cells=#[v]:=by
 rcases h with ⟨b,d,h1,_⟩ | h
 ·subst h1;rfl
 ·rw [h.1];rfl
theorem RVal.zero {Φ:Fz}:RVal Φ [.string sNo,.int .i64 0,.slice none 0 0] v0:=RVal.iff.2 ⟨_,rfl,⟨by decide,by decide⟩,SliceOf.nil 3⟩
section
variable {P:Program} {n:Nat} {E:List (Nat×Value)} {D:List Deferred} {a:Act} {Φ Ψ:Fz} {K K':List Res} {w:World}
theorem given_lookup {t kt et:TypeId} {x y:Operand} {ty:TypeId} {s:Bs} {v:Value} {inp:List (Bs×Val)} (hg:RGiven Φ v inp) (ht:Under P t (.map kt et)) (hk:Under P kt .string) (hz:ZeroT P et (.agg (List.toArray [.string sNo,.int .i64 0,.slice none 0 0])))
  (he:EnvR n E D a) (hm:Sees Φ K w) (hx:ev E x=some v) (hy:ev E y=some (.string s)):∃cs,RVal Φ cs ((lget inp s).getD v0)∧Ok P a (.lookup t x y false) ty w (.agg cs.toArray):=by
 rcases hg with ⟨b,d,rfl,h2,h3⟩ | ⟨rfl,rfl⟩
 ·have hl:=z0o (P:=P) (ty:=ty) (w:=w) (ok:=false) ht hk hz he hm hx hy h2
  cases hd:mget d s with
  | none =>
   rw [hd] at hl
   rw [h3.none hd]
   exact ⟨_,RVal.zero,hl⟩
  | some u =>
   obtain ⟨q,hq,cs,hcs,hr⟩:=h3.get hd
   rw [hd] at hl
   rw [hq]
   subst hcs
   exact ⟨cs,hr,hl⟩
 ·exact ⟨_,RVal.zero,y_lookup_nil (P:=P) (ty:=ty) (w:=w) (ok:=false) ht hk hz he hx hy⟩
theorem neq_nilptr {o:BinOp} {t t':TypeId} {x:Operand} {y:Operand} {p:Addr} {ty:TypeId} (ho:o=.neq) (he:EnvR n E D a) (hx:ev E x=some (.pointer (some p))) (hy:ev E y=some (.pointer none))
  (hb:∀w,(binOp .neq t (.pointer (some p)) (.pointer none)).run P w=.ok (.bool true) w):Ok P a (.binOp o t x y t') ty w (.bool true):=by
 subst ho;exact y0z he hx hy rfl (hb w)
theorem neq_nilnil {o:BinOp} {t t':TypeId} {x:Operand} {y:Operand} {ty:TypeId} (ho:o=.neq) (he:EnvR n E D a) (hx:ev E x=some (.pointer none)) (hy:ev E y=some (.pointer none))
  (hb:∀w,(binOp .neq t (.pointer none) (.pointer none)).run P w=.ok (.bool false) w):Ok P a (.binOp o t x y t') ty w (.bool false):=by
 subst ho;exact y0z he hx hy rfl (hb w)
end
section
variable {P:Program} {n:Nat} {E:List (Nat×Value)} {D:List Deferred} {a:Act} {Φ Ψ:Fz} {K K':List Res} {w:World}
variable {Kn:Value→World→Prop} {Qp:List PanicEntry→World→Prop} {dst:Option Tmp} {ty:TypeId} {pos:String} {aft:Array Edge} {g:Option (Nat×Bool)}
theorem eff_given {t kt et:TypeId} {x y:Operand} {s:Bs} {v:Value} {inp:List (Bs×Val)} (hg:RGiven Φ v inp) (ht:Under P t (.map kt et)) (hk:Under P kt .string) (hz:ZeroT P et (.agg (List.toArray [.string sNo,.int .i64 0,.slice none 0 0])))
  (he:EnvR n E D a) (hm:Sees Φ K w) (hx:ev E x=some v) (hy:ev E y=some (.string s)) (k:∀cs,RVal Φ cs ((lget inp s).getD v0)→Kn (.agg cs.toArray) w):Oper.eff P ⟨dst,.lookup t x y false,ty,pos,aft,g⟩ a w Kn Qp:=by
 obtain ⟨cs,h1,h2⟩:=given_lookup (ty:=ty) hg ht hk hz he hm hx hy
 exact z6w h2 (k cs h1)
end
def evX {α:Type} (r:Ev α):Except Unit (α×Nat):=match r with
 | .ok x g=>.ok (x,g)
 | _=>.error ()
theorem z6b {α:Type} {r:Ev α} {x:α×Nat} (h:evX r=.ok x):r=.ok x.1 x.2:=by
 cases r with
 | ok y g=>simp only [evX,Except.ok.injEq] at h;subst h;rfl
 | spent=>cases h
 | stuck=>cases h
theorem z3x {α:Type} {r:Ev α} {c:Unit} (h:evX r=.error c) (hs:r≠.stuck):r=.spent:=by
 cases r with
 | ok y g=>cases h
 | spent=>rfl
 | stuck=>exact absurd rfl hs
theorem evOut {α:Type} {r:Ev α} {x:α} {g:Nat} {A:α×Nat→Prop} {B:Unit→Prop} (h:r=.ok x g) (hA:A (x,g)):Out (evX r) A B:=by subst h;exact hA
theorem z8c {α:Type} {r:Ev α} {A:α×Nat→Prop} {B:Unit→Prop} (h:r=.spent) (hB:B ()):Out (evX r) A B:=by subst h;exact hB
theorem z2v {α β:Type} {r:Ev α} {f:α→Nat→Ev β} (h:r.bind f≠.stuck):r≠.stuck:=by rintro rfl;exact h rfl
theorem ns_ok {α β:Type} {r:Ev α} {f:α→Nat→Ev β} {x:α} {g:Nat} (h:r.bind f≠.stuck) (hr:r=.ok x g):f x g≠.stuck:=by subst hr;exact h
theorem z5z {α β:Type} {r:Ev α} {f:α→Nat→Ev β} {x:α} {g:Nat} (hr:r=.ok x g):r.bind f=f x g:=by subst hr;rfl
theorem z6o {α β:Type} {r:Ev α} {f:α→Nat→Ev β} (hr:r=.spent):r.bind f=.spent:=by subst hr;rfl
def spentC:Unit→List PanicEntry:=fun _=>[{ v:=.iface 177 (.agg (List.toArray [])),recovered:=false }]
abbrev stepsB (bs n:Nat):Res:=.blk bs (ob [.int .i64 ((n:Nat):Int)] 3)
abbrev runV (p:Addr) (mg:Value) (bs fuel:Nat):Value:=.agg (List.toArray [.pointer (some p),mg,.pointer (some ⟨bs,0,none⟩),.int .i64 ((fuel:Nat):Int)])
def FunsOk (T:Table):Prop:=∀n f,lget T.funs n=some f→f.params.length≤1000∧Short f.body
def y0h (P:Program) (T:Table) (inp:List (Bs×Val)) (g:Nat):Prop :=
 ∀{Φ:Fz} {K:List Res} {w:World} {p:Addr} {d:List Value} {e:Ex} {env:Env} {o:Option Addr} {mg:Value} {bs fuel:Nat},RTable Φ p T→RGiven Φ mg inp→REx Φ d e→REnv Φ env o→Short e→g≤fuel→fuel≤1000000 →
  z2g ⟨T.funs,inp⟩ g e env≠.stuck→Mem Φ (stepsB bs (fuel - g)::K) w →
  Calls P 103 (List.toArray [runV p mg bs fuel,.agg d.toArray,.pointer o]) w (fun ee w'=>Out (evX (z2g ⟨T.funs,inp⟩ g e env))
   (fun x=>∃y:Fz×List Value,ee=.returned (.agg y.2.toArray)∧(Φ.Le y.1∧RVal y.1 y.2 x.1)∧Mem y.1 (stepsB bs (fuel - x.2)::K) w')
   (fun c=>ee=.panicked (spentC c)∧Mem Φ (stepsB bs (fuel+1)::K) w'))
def EachSpec (P:Program) (T:Table) (inp:List (Bs×Val)) (g:Nat):Prop :=
 ∀{Φ:Fz} {K:List Res} {w:World} {p:Addr} {l:List Ex} {env:Env} {o:Option Addr} {s mg:Value} {bs fuel:Nat},RTable Φ p T→RGiven Φ mg inp→SliceOf REx Φ 5 s l→REnv Φ env o→(∀x∈l,Short x)→l.length≤6000→g≤fuel→fuel≤1000000 →
  z4c (z2g ⟨T.funs,inp⟩) env l g≠.stuck→Mem Φ (stepsB bs (fuel - g)::K) w →
  Calls P 158 (List.toArray [runV p mg bs fuel,s,.pointer o]) w (fun ee w'=>Out (evX (z4c (z2g ⟨T.funs,inp⟩) env l g))
   (fun x=>∃y:Fz×Value,ee=.returned y.2∧(Φ.Le y.1∧SliceOf RVal y.1 3 y.2 x.1)∧Mem y.1 (stepsB bs (fuel - x.2)::K) w')
   (fun c=>ee=.panicked (spentC c)∧Mem Φ (stepsB bs (fuel+1)::K) w'))
def CallSpec (P:Program) (T:Table) (inp:List (Bs×Val)) (g:Nat):Prop :=
 ∀{Φ:Fz} {K:List Res} {w:World} {p:Addr} {d:List Value} {f:Fun} {l:List Val} {s mg:Value} {bs fuel:Nat},RTable Φ p T→RGiven Φ mg inp→RFun Φ d f→SliceOf RVal Φ 3 s l→f.params.length≤1000→Short f.body→g≤fuel→fuel≤1000000 →
  z5e (z2g ⟨T.funs,inp⟩) f l g≠.stuck→Mem Φ (stepsB bs (fuel - g)::K) w →
  Calls P 48 (List.toArray [runV p mg bs fuel,.agg d.toArray,s]) w (fun ee w'=>Out (evX (z5e (z2g ⟨T.funs,inp⟩) f l g))
   (fun x=>∃y:Fz×List Value,ee=.returned (.agg y.2.toArray)∧(Φ.Le y.1∧RVal y.1 y.2 x.1)∧Mem y.1 (stepsB bs (fuel - x.2)::K) w')
   (fun c=>ee=.panicked (spentC c)∧Mem Φ (stepsB bs (fuel+1)::K) w'))
theorem each_id {α:Type} (r:Ev (List α)):r=r.bind fun vs g=>.ok ([]++vs) g:=by cases r <;> rfl
theorem each_cons_ok {ev:Nat→Ex→Env→Ev Val} {env:Env} {x:Ex} {rest:List Ex} {g1 g2:Nat} {z:Val} {xs:List Val} (hv:ev g1 x env=.ok z g2) :
  (z4c ev env (x::rest) g1).bind (fun vs g=>.ok (xs++vs) g)=(z4c ev env rest g2).bind fun vs g=>.ok ((xs++[z])++vs) g:=by
 simp only [z4c]
 rw [hv]
 simp only [Ev.bind]
 cases z4c ev env rest g2 <;> simp
theorem each_cons_sp {ev:Nat→Ex→Env→Ev Val} {env:Env} {x:Ex} {rest:List Ex} {g1:Nat} {xs:List Val} (hv:ev g1 x env=.spent) :
  (z4c ev env (x::rest) g1).bind (fun vs g=>.ok (xs++vs) g)=.spent:=by
 simp only [z4c]
 rw [hv];rfl
theorem each_nil_ok {ev:Nat→Ex→Env→Ev Val} {env:Env} {g1:Nat} {xs:List Val}:(z4c ev env [] g1).bind (fun vs g=>.ok (xs++vs) g)=.ok xs g1:=by
 simp [z4c,Ev.bind]
theorem call_bound {ev:Nat→Ex→Env→Ev Val} {f:Fun} {l:List Val} {g:Nat} (h:z5e ev f l g≠.stuck):∃env,bindV (f.params.map Param.name) l []=some env:=by
 unfold z5e z9o at h
 cases hb:bindV (f.params.map Param.name) l [] with
 | none=>rw [hb] at h;exact absurd rfl h
 | some env=>exact ⟨env,rfl⟩
theorem bindV_len:∀{ns:List Bs} {az:List Val} {env env':Env} {i:Nat},bindV (ns.drop i) (az.drop i) env=some env'→i < ns.length→i < az.length
 | ns,az,env,env',i,h,hi=>by
  by_cases ha:i < az.length
  ·exact ha
  ·rw [List.drop_eq_getElem_cons hi,z0g ha] at h
   cases h
theorem ints_get {l:List Int} {i:Nat} {x:Int} (h:l[i]? = some x):(ints l)[i * 1]? = some (.int .i64 x):=by
 simp [ints,h]
theorem z0w (l:List Int) (x:Int):totalP (l++[x])=IntKind.i64.wrap (totalP l+x):=by simp [totalP]
theorem take_snoc {α:Type} {l:List α} {i:Nat} {x:α} (h:l[i]? = some x):l.take (i+1)=l.take i++[x]:=by
 rw [List.take_add_one,h];rfl
theorem take_all {α:Type} {l:List α} {i:Nat} (h:¬i < l.length):l.take i=l:=List.take_of_length_le (by omega)
end Go.Sw

namespace Go.Sw
section
variable {ev:Nat→Ex→Env→Ev Val} {C:Ctx} {g:Nat} {e:Ex} {env:Env}
theorem step_num (h:e.kind=1):z3z ev C g e env=.ok (vNum e.num) g:=by unfold z3z;simp [h]
theorem step_var (h:e.kind=2):z3z ev C g e env=.ok ((lget env e.name).getD v0) g:=by unfold z3z;simp [h]
theorem step_inp (h:e.kind=3):z3z ev C g e env=.ok ((lget C.inp e.name).getD v0) g:=by unfold z3z;simp [h]
theorem step_con (h:e.kind=4):z3z ev C g e env=(z4c ev env e.args g).bind fun l g=>.ok (.mk e.name 0 l) g:=by unfold z3z;simp [h]
theorem step_call {f:Fun} (h:e.kind=5) (hf:lget C.funs e.name=some f):z3z ev C g e env=(z4c ev env e.args g).bind fun l g=>z5e ev f l g:=by unfold z3z;simp [h,hf]
theorem step_nofun (h:e.kind=5) (hf:lget C.funs e.name=none):z3z ev C g e env=.stuck:=by unfold z3z;simp [h,hf]
theorem step_let2 (h:e.kind=6) (hns:z3z ev C g e env≠.stuck):2≤e.args.length:=by
 unfold z3z at hns
 simp only [h] at hns
 match ha:e.args with
 | []=>rw [ha] at hns;simp at hns
 | [a]=>rw [ha] at hns;simp at hns
 | a::b::l=>simp
theorem z9g {a b:Ex} (h:e.kind=6) (h0:e.args[0]? = some a) (h1:e.args[1]? = some b):z3z ev C g e env=(ev g a env).bind fun x g=>ev g b ((e.name,x)::env):=by
 unfold z3z
 simp only [h]
 match ha:e.args with
 | []=>rw [ha] at h0;simp at h0
 | [x]=>rw [ha] at h1;simp at h1
 | x::y::l =>
  rw [ha] at h0 h1
  simp only [List.getElem?_cons_zero,List.getElem?_cons_succ,Option.some.injEq] at h0 h1
  subst h0;subst h1;simp
def armOf (ev:Nat→Ex→Env→Ev Val) (arms:List Arm) (env:Env) (x:Val) (g:Nat):Ev Val:=match z4m arms x.con with
 | none=>.ok v0 g
 | some m=>z9o ev m.vars x.args env m.body g
theorem step_case1 (h:e.kind=7) (hns:z3z ev C g e env≠.stuck):1≤e.args.length:=by
 unfold z3z at hns
 simp only [h] at hns
 match ha:e.args with
 | []=>rw [ha] at hns;simp at hns
 | a::l=>simp
theorem z5m {a:Ex} (h:e.kind=7) (h0:e.args[0]? = some a):z3z ev C g e env=(ev g a env).bind fun x g=>armOf ev e.arms env x g:=by
 unfold z3z
 simp only [h]
 match ha:e.args with
 | []=>rw [ha] at h0;simp at h0
 | x::l =>
  rw [ha] at h0
  simp only [List.getElem?_cons_zero,Option.some.injEq] at h0
  subst h0;simp [armOf];rfl
def opOf (nm:Bs) (l:List Val) (g:Nat):Ev Val:=match l with
 | a::b::_=>.ok (z2m nm a.num b.num) g
 | _=>.stuck
theorem step_op (h:e.kind=8):z3z ev C g e env=(z4c ev env e.args g).bind fun l g=>opOf e.name l g:=by unfold z3z;simp [h];rfl
theorem opOf_len {nm:Bs} {l:List Val} (h:opOf nm l g≠.stuck):2≤l.length:=by
 match l with
 | []=>exact absurd rfl h
 | [a]=>exact absurd rfl h
 | a::b::l=>simp
theorem opOf_eq {nm:Bs} {l:List Val} {a b:Val} (h0:l[0]? = some a) (h1:l[1]? = some b):opOf nm l g=.ok (z2m nm a.num b.num) g:=by
 match l with
 | []=>simp at h0
 | [x]=>simp at h1
 | x::y::l =>
  simp only [List.getElem?_cons_zero,List.getElem?_cons_succ,Option.some.injEq] at h0 h1
  subst h0;subst h1;rfl
theorem step_none (h1:e.kind≠1) (h2:e.kind≠2) (h3:e.kind≠3) (h4:e.kind≠4) (h5:e.kind≠5) (h6:e.kind≠6) (h7:e.kind≠7) (h8:e.kind≠8):z3z ev C g e env=.ok v0 g:=by
 unfold z3z;simp [*]
theorem armOf_none {arms:List Arm} {x:Val} (h:z4m arms x.con=none):armOf ev arms env x g=.ok v0 g:=by unfold armOf;rw [h]
theorem z7r {arms:List Arm} {x:Val} {m:Arm} (h:z4m arms x.con=some m):armOf ev arms env x g=z9o ev m.vars x.args env m.body g:=by unfold armOf;rw [h]
theorem body_bound {ns:List Bs} {az:List Val} {b:Ex} (h:z9o ev ns az env b g≠.stuck):∃en,bindV ns az env=some en:=by
 unfold z9o at h
 cases hb:bindV ns az env with
 | none=>rw [hb] at h;exact absurd rfl h
 | some en=>exact ⟨en,rfl⟩
theorem body_eq {ns:List Bs} {az:List Val} {b:Ex} {en:Env} (h:bindV ns az env=some en):z9o ev ns az env b g=ev g b en:=by unfold z9o;rw [h]
theorem bindV_nil {az:List Val} {en:Env}:bindV [] az en=some en:=by cases az <;> rfl
end
theorem each_le {C:Ctx} {env:Env} {l:List Ex} {g r:Nat} {vs:List Val} (h:z4c (z2g C) env l g=.ok vs r):r≤g:=z8z (z1u C) h
end Go.Sw

namespace Go.Sw
open Go.Proofs.Tryz
open Go.Proofs
theorem mixed:Tryz.prog.follows .mixedOrders=true:=by kernel_rfl
theorem fo_27_0:z0k Tryz.prog 27 0 0:=z0d runUnderlying27 rfl sizeOf22 (by decide) rfl
theorem fo_27_1:z0k Tryz.prog 27 1 1:=z0d runUnderlying27 rfl sizeOf23 (by decide) rfl
theorem fo_27_2:z0k Tryz.prog 27 2 2:=z0d runUnderlying27 rfl sizeOf24 (by decide) rfl
theorem fo_27_3:z0k Tryz.prog 27 3 3:=z0d runUnderlying27 rfl sizeOf25 (by decide) rfl
theorem fo_30_0:z0k Tryz.prog 30 0 0:=z0d runUnderlying30 rfl sizeOf28 (by decide) rfl
theorem fo_30_1:z0k Tryz.prog 30 1 1:=z0d runUnderlying30 rfl sizeOf3 (by decide) rfl
theorem fo_42_0:z0k Tryz.prog 42 0 0:=z0d runUnderlying42 rfl sizeOf9 (by decide) rfl
theorem fo_42_1:z0k Tryz.prog 42 1 1:=z0d runUnderlying42 rfl sizeOf3 (by decide) rfl
theorem fo_42_2:z0k Tryz.prog 42 2 2:=z0d runUnderlying42 rfl sizeOf38 (by decide) rfl
theorem fo_62_0:z0k Tryz.prog 62 0 0:=z0d runUnderlying62 rfl sizeOf9 (by decide) rfl
theorem fo_62_1:z0k Tryz.prog 62 1 1:=z0d runUnderlying62 rfl sizeOf42 (by decide) rfl
theorem fo_66_0:z0k Tryz.prog 66 0 0:=z0d runUnderlying66 rfl sizeOf3 (by decide) rfl
theorem fo_66_1:z0k Tryz.prog 66 1 1:=z0d runUnderlying66 rfl sizeOf3 (by decide) rfl
theorem fo_66_2:z0k Tryz.prog 66 2 2:=z0d runUnderlying66 rfl sizeOf9 (by decide) rfl
theorem fo_66_3:z0k Tryz.prog 66 3 3:=z0d runUnderlying66 rfl sizeOf63 (by decide) rfl
theorem fo_66_4:z0k Tryz.prog 66 4 4:=z0d runUnderlying66 rfl sizeOf64 (by decide) rfl
theorem fo_68_0:z0k Tryz.prog 68 0 0:=z0d runUnderlying68 rfl sizeOf9 (by decide) rfl
theorem fo_68_1:z0k Tryz.prog 68 1 1:=z0d runUnderlying68 rfl sizeOf23 (by decide) rfl
theorem fo_68_2:z0k Tryz.prog 68 2 2:=z0d runUnderlying68 rfl sizeOf9 (by decide) rfl
theorem fo_68_3:z0k Tryz.prog 68 3 3:=z0d runUnderlying68 rfl sizeOf66 (by decide) rfl
theorem fo_72_0:z0k Tryz.prog 72 0 0:=z0d runUnderlying72 rfl sizeOf9 (by decide) rfl
theorem fo_72_1:z0k Tryz.prog 72 1 1:=z0d runUnderlying72 rfl sizeOf9 (by decide) rfl
theorem fo_99_0:z0k Tryz.prog 99 0 0:=z0d runUnderlying99 rfl sizeOf89 (by decide) rfl
theorem fo_99_1:z0k Tryz.prog 99 1 1:=z0d runUnderlying99 rfl sizeOf94 (by decide) rfl
theorem fo_99_2:z0k Tryz.prog 99 2 2:=z0d runUnderlying99 rfl sizeOf96 (by decide) rfl
theorem fo_99_3:z0k Tryz.prog 99 3 3:=z0d runUnderlying99 rfl sizeOf3 (by decide) rfl
theorem fo_106_0:z0k Tryz.prog 106 0 0:=z0d runUnderlying106 rfl sizeOf27 (by decide) rfl
theorem fo_106_1:z0k Tryz.prog 106 1 4:=z0d runUnderlying106 rfl sizeOf101 (by decide) rfl
theorem fo_106_2:z0k Tryz.prog 106 2 5:=z0d runUnderlying106 rfl sizeOf102 (by decide) rfl
theorem fo_106_3:z0k Tryz.prog 106 3 6:=z0d runUnderlying106 rfl sizeOf103 (by decide) rfl
theorem fo_106_4:z0k Tryz.prog 106 4 7:=z0d runUnderlying106 rfl sizeOf104 (by decide) rfl
theorem fo_130_0:z0k Tryz.prog 130 0 0:=z0d runUnderlying130 rfl sizeOf127 (by decide) rfl
theorem fo_130_1:z0k Tryz.prog 130 1 1:=z0d runUnderlying130 rfl sizeOf128 (by decide) rfl
theorem fo_133_0:z0k Tryz.prog 133 0 0:=z0d runUnderlying133 rfl sizeOf9 (by decide) rfl
theorem fo_133_1:z0k Tryz.prog 133 1 1:=z0d runUnderlying133 rfl sizeOf131 (by decide) rfl
theorem fo_135_0:z0k Tryz.prog 135 0 0:=z0d runUnderlying135 rfl sizeOf9 (by decide) rfl
theorem fo_135_1:z0k Tryz.prog 135 1 1:=z0d runUnderlying135 rfl sizeOf25 (by decide) rfl
theorem fo_181_0:z0k Tryz.prog 181 0 0:=z0d runUnderlying181 rfl sizeOf9 (by decide) rfl
theorem fo_181_1:z0k Tryz.prog 181 1 1:=z0d runUnderlying181 rfl sizeOf42 (by decide) rfl
theorem fo_181_2:z0k Tryz.prog 181 2 4:=z0d runUnderlying181 rfl sizeOf179 (by decide) rfl
theorem fo_190_0:z0k Tryz.prog 190 0 0:=z0d runUnderlying190 rfl sizeOf9 (by decide) rfl
theorem fo_190_1:z0k Tryz.prog 190 1 1:=z0d runUnderlying190 rfl sizeOf135 (by decide) rfl
theorem fo_195_0:z0k Tryz.prog 195 0 0:=z0d runUnderlying195 rfl sizeOf9 (by decide) rfl
theorem fo_195_1:z0k Tryz.prog 195 1 1:=z0d runUnderlying195 rfl sizeOf25 (by decide) rfl
theorem fo_195_2:z0k Tryz.prog 195 2 2:=z0d runUnderlying195 rfl sizeOf66 (by decide) rfl
theorem fo_270_1:z0k Tryz.prog 270 1 1:=z0d runUnderlying270 rfl sizeOf31 (by decide) rfl
theorem fo_274_0:z0k Tryz.prog 274 0 0:=z0d runUnderlying274 rfl sizeOf3 (by decide) rfl
theorem fo_274_2:z0k Tryz.prog 274 2 2:=z0d runUnderlying274 rfl sizeOf9 (by decide) rfl
theorem fo_297_0:z0k Tryz.prog 297 0 0:=z0d runUnderlying297 rfl sizeOf9 (by decide) rfl
theorem fo_297_1:z0k Tryz.prog 297 1 1:=z0d runUnderlying297 rfl sizeOf3 (by decide) rfl
theorem fo_301_0:z0k Tryz.prog 301 0 0:=z0d runUnderlying301 rfl sizeOf297 (by decide) rfl
theorem fo_301_1:z0k Tryz.prog 301 1 2:=z0d runUnderlying301 rfl sizeOf298 (by decide) rfl
theorem fo_301_2:z0k Tryz.prog 301 2 3:=z0d runUnderlying301 rfl sizeOf299 (by decide) rfl
set_option maxRecDepth 20000 in
theorem rt_22:RowT Tryz.prog 22 133 2 40:=⟨underlying22,⟨_,_,Tryz.type133,rfl,rfl,rfl,rfl⟩,by decide,by decide⟩
set_option maxRecDepth 20000 in
theorem z9k:RowT Tryz.prog 25 9 1 16:=⟨underlying25,⟨_,_,Tryz.type9,rfl,rfl,rfl,rfl⟩,by decide,by decide⟩
set_option maxRecDepth 20000 in
theorem rt_28:RowT Tryz.prog 28 62 4 64:=⟨underlying28,⟨_,_,Tryz.type62,rfl,rfl,rfl,rfl⟩,by decide,by decide⟩
set_option maxRecDepth 20000 in
theorem z7b:RowT Tryz.prog 38 42 3 48:=⟨underlying38,⟨_,_,Tryz.type42,rfl,rfl,rfl,rfl⟩,by decide,by decide⟩
set_option maxRecDepth 20000 in
theorem z7q:RowT Tryz.prog 93 3 1 8:=⟨underlying93,⟨_,_,Tryz.type3,rfl,rfl,rfl,rfl⟩,by decide,by decide⟩
set_option maxRecDepth 20000 in
theorem rt_128:RowT Tryz.prog 128 5 1 1:=⟨underlying128,⟨_,_,Tryz.type5,rfl,rfl,rfl,rfl⟩,by decide,by decide⟩
set_option maxRecDepth 20000 in
theorem rt_299:RowT Tryz.prog 299 314 2 16:=⟨underlying299,⟨_,_,Tryz.type314,rfl,rfl,rfl,rfl⟩,by decide,by decide⟩
end Go.Sw
