import Derived.OrdersIn
import Derived.Test.YtgkhcfjooiekkaaGreatDoorProg
import Derived.Test.YtgkhcfjooiekkaaGreatDoorX01
import Derived.Test.YtgkhcfjooiekkaaGreatDoorX03
import Derived.Test.YtgkhcfjooiekkaaGreatDoorX04
import Derived.Test.YtgkhcfjooiekkaaGreatDoorX06
import Derived.Test.YtgkhcfjooiekkaaGreatDoorX08
import Derived.Test.YtgkhcfjooiekkaaGreatDoorX11
set_option linter.unusedVariables false
set_option linter.unusedSimpArgs false
namespace Go.Sw
theorem calledPs_mem:∀{l:List Ex} {x:Ex} {y:Bs},x∈l→y∈z1r x→y∈calledPs l
 | z::l,x,y,h,hy=>by
  simp only [calledPs,List.mem_append]
  rcases List.mem_cons.1 h with rfl | h
  ·exact .inl hy
  ·exact .inr (calledPs_mem h hy)
theorem calledPa_mem:∀{l:List Arm} {a:Arm} {y:Bs},a∈l→y∈z1r a.body→y∈calledPa l
 | z::l,a,y,h,hy=>by
  rw [y0l,List.mem_append]
  rcases List.mem_cons.1 h with rfl | h
  ·exact .inl hy
  ·exact .inr (calledPa_mem h hy)
theorem reach_from {T:Table} {n y x:Bs} (h1:y∈z2y T n) (h:Reach T y x):Reach T n x:=by
 induction h with
 | refl=>exact .step .refl h1
 | step _ hy ih=>exact .step ih hy
theorem given_all {T:Table}:∀{vs:List Val} {ps:List Param},givenA T vs ps=true→HasAll T vs (ps.map Param.type)
 | [],[],_=>trivial
 | v::vs,p::ps,h=>by
  simp only [givenA,Bool.and_eq_true] at h
  exact ⟨h.1.2,given_all h.2⟩
 | [],_::_,h=>by cases h
 | _::_,[],h=>by cases h
theorem body_quiet {T:Table} {n:Bs} {f:Fun} (hf:lget T.funs n=some f) (hn:¬z5p T n):z3u f.body=false∧∀y∈z1r f.body,¬z5p T y:=by
 have hb:=z9u hf
 refine ⟨?_,fun y hy hr=>hn ?_⟩
 ·cases hrd:z3u f.body with
  | false=>rfl
  | true=>exact absurd ⟨_,.refl,by rw [hb];exact hrd⟩ hn
 ·obtain ⟨x,h1,h2⟩:=hr
  exact ⟨x,reach_from (by unfold z2y;rw [hb];exact hy) h1,h2⟩
theorem quiet_closed (T:Table):Closed T ⟨T.funs,[]⟩ (fun e=>z3u e=false∧∀y∈z1r e,¬z5p T y):=by
 refine ⟨fun {e x} hp hx =>?_,fun {e a} hp ha =>?_,fun {e t} hp hk =>?_,fun {e f} hp hk hf =>?_⟩
 ·obtain ⟨h1,h2⟩:=hp
  rw [z8j] at h1
  simp only [Bool.or_eq_false_iff] at h1
  refine ⟨?_,fun y hy=>h2 y ?_⟩
  ·have:=List.any_eq_false.1 h1.1.2 x hx;simpa using this
  ·rw [z9p];simp only [List.mem_append];exact .inl (.inr (calledPs_mem hx hy))
 ·obtain ⟨h1,h2⟩:=hp
  rw [z8j] at h1
  simp only [Bool.or_eq_false_iff] at h1
  refine ⟨?_,fun y hy=>h2 y ?_⟩
  ·have:=List.any_eq_false.1 h1.2 a ha;simpa using this
  ·rw [z9p];simp only [List.mem_append];exact .inr (calledPa_mem ha hy)
 ·have:=hp.1
  rw [z8j] at this;simp [hk] at this
 ·exact body_quiet hf (hp.2 _ (by rw [z9p,if_pos hk];simp))
theorem call_safe {c:Core} (h:z1g c=0) (name:Bs) (args:List Val):CallSafe c name args:=by
 intro f hf hg hr g
 exact (callP_ok (z5y h) (quiet_closed (z0f c)) hf (body_quiet hf hr) (given_all hg) g).1
mutual
def numsE:Ex→Prop
 | .mk _ n _ args arms=>I64 n∧numsEs args∧numsEa arms
def numsEs:List Ex→Prop
 | []=>True
 | e::es=>numsE e∧numsEs es
def numsEa:List Arm→Prop
 | []=>True
 | .mk _ _ b::es=>numsE b∧numsEa es
end
mutual
theorem REx'.nums {Φ:Fz}:∀{x:Ex} {cs:List Value},REx' Φ x cs→numsE x
 | .mk _ _ _ _ _,_,⟨_,_,_,_,_,h2,_,h4,_,h6⟩=>⟨h2,REs'.nums h4,RArms'.nums h6⟩
theorem REs'.nums {Φ:Fz}:∀{xs:List Ex} {cs:List Value},REs' Φ xs cs→numsEs xs
 | [],_,_=>trivial
 | _::_,_,⟨_,_,_,_,h3,h4⟩=>⟨REx'.nums h3,REs'.nums h4⟩
theorem RArm'.nums {Φ:Fz}:∀{x:Arm} {cs:List Value},RArm' Φ x cs→numsE x.body
 | .mk _ _ _,_,⟨_,_,_,_,_,h4⟩=>REx'.nums h4
theorem RArms'.nums {Φ:Fz}:∀{xs:List Arm} {cs:List Value},RArms' Φ xs cs→numsEa xs
 | [],_,_=>trivial
 | .mk _ _ _::_,_,⟨_,_,_,_,h3,h4⟩=>⟨RArm'.nums h3,RArms'.nums h4⟩
end
theorem chunks_mem {α:Type} {R:List Value→α→Prop} {k:Nat}:∀{xs:List α} {cs:List Value},Chunks R k cs xs→∀x∈xs,∃c,R c x
 | y::xs,_,h,x,hx=>by
  obtain ⟨c,rest,_,_,h3,h4⟩:=h
  rcases List.mem_cons.1 hx with rfl | hx
  ·exact ⟨c,h3⟩
  ·exact chunks_mem h4 x hx
theorem core_nums {Φ:Fz} {d:List Value} {c:Core} (h:RCore Φ d c):∀f∈c.funs,numsE f.body:=fun f hf=>by
 obtain ⟨_,_,_,_,_,_,_,h4,_⟩:=h
 obtain ⟨_,_,h4⟩:=h4
 obtain ⟨_,_,_,_,_,hb⟩:=chunks_mem h4 f hf
 exact REx'.nums hb
theorem numsEs_mem:∀{l:List Ex},numsEs l→∀x∈l,numsE x
 | y::l,h,x,hx=>by
  rcases List.mem_cons.1 hx with rfl | hx
  ·exact h.1
  ·exact numsEs_mem h.2 x hx
theorem numsEa_mem:∀{l:List Arm},numsEa l→∀a∈l,numsE a.body
 | .mk _ _ b::l,h,x,hx=>by
  rcases List.mem_cons.1 hx with rfl | hx
  ·exact h.1
  ·exact numsEa_mem h.2 x hx
theorem numsE_eq {e:Ex} (h:numsE e):I64 e.num∧(∀x∈e.args,numsE x)∧∀a∈e.arms,numsE a.body:=by
 cases e;exact ⟨h.1,numsEs_mem h.2.1,numsEa_mem h.2.2⟩
theorem digsR_len:∀(d f n:Nat),n < 10 ^ (d+1)→(digsR f n).length≤d+1
 | _,0,_,_=>by simp [digsR]
 | d,f+1,n,h=>by
  simp only [digsR]
  split
  ·simp
  ·rename_i hn
   cases d with
   | zero=>omega
   | succ d =>
    have:=digsR_len d f (n / 10) (by rw [Nat.pow_succ] at h;omega)
    simp only [List.length_cons];omega
theorem itoaL_len {n:Int} (h:I64 n):(itoaL n).length≤24:=by
 have h1:∀m:Nat,m≤9223372036854775808→(digsL m).length≤19:=fun m hm=>by
  unfold digsL;rw [List.length_reverse];exact digsR_len 18 _ _ (by omega)
 unfold I64 at h
 unfold itoaL
 split
 ·have:=h1 (-n).toNat (by omega);simp only [List.length_cons];omega
 ·have:=h1 n.toNat (by omega);omega
theorem wfEs_of:∀{l:List Ex},(∀x∈l,wfE x=true)→wfEs l=true
 | [],_=>rfl
 | y::l,h=>by
  simp only [wfEs,Bool.and_eq_true]
  exact ⟨h y List.mem_cons_self,wfEs_of fun x hx=>h x (List.mem_cons_of_mem _ hx)⟩
theorem wfEa_of:∀{l:List Arm},(∀a∈l,wfE a.body=true∧a.con.size≤24∧∀v∈a.vars,v.size≤24)→wfEa l=true
 | [],_=>rfl
 | .mk c vs b::l,h=>by
  obtain ⟨h1,h2,h3⟩:=h (.mk c vs b) List.mem_cons_self
  simp only [wfEa,Bool.and_eq_true,decide_eq_true_eq,List.all_eq_true]
  exact ⟨⟨⟨h1,wfEa_of fun x hx=>h x (List.mem_cons_of_mem _ hx)⟩,h2⟩,h3⟩
theorem wfE_of {e:Ex} (h1:e.kind=7→0 < e.args.length) (h2:∀x∈e.args,wfE x=true) (h3:∀a∈e.arms,wfE a.body=true∧a.con.size≤24∧∀v∈a.vars,v.size≤24) (h4:e.name.size≤24) (h5:I64 e.num):wfE e=true:=by
 cases e with
 | mk k n s args arms =>
  simp only [wfE,Bool.and_eq_true,Bool.or_eq_true,decide_eq_true_eq]
  refine ⟨⟨⟨⟨?_,wfEs_of h2⟩,wfEa_of h3⟩,h4⟩,itoaL_len h5⟩
  by_cases hk:k=7
  ·exact .inr (h1 hk)
  ·exact .inl hk
theorem All2.left {α β:Type} {R:α→β→Prop}:∀{xs:List α} {ys:List β},All2 R xs ys→∀x∈xs,∃y∈ys,R x y
 | x::xs,y::ys,h,z,hz=>by
  rcases List.mem_cons.1 hz with rfl | hz
  ·exact ⟨y,List.mem_cons_self,h.1⟩
  ·obtain ⟨u,h1,h2⟩:=All2.left h.2 z hz;exact ⟨u,List.mem_cons_of_mem _ h1,h2⟩
 | [],_,_,z,hz=>by cases hz
 | _::_,[],h,_,_=>h.elim
theorem mem_bindPs {l:List Ex} {x:Ex} (h:x∈l):∃p q,bindPs l=p++z0n x++q:=by
 induction l with
 | nil=>cases h
 | cons b az ih =>
  simp only [bindPs]
  rcases List.mem_cons.1 h with rfl | h
  ·exact ⟨[],bindPs az,by simp⟩
  ·obtain ⟨p,q,e⟩:=ih h
   exact ⟨z0n b++p,q,by rw [e];simp⟩
theorem bare_name {e:Ex} {num:Bool} {a b:Int} (h:z2o e num false a b=true):e.name=sNo:=by
 simp only [z2o,Bool.and_eq_true,Bool.false_or,decide_eq_true_eq] at h;exact h.1.1.2
theorem bare_args0 {e:Ex} {num nm:Bool} {b:Int} (h:z2o e num nm 0 b=true):e.args=[]:=List.eq_nil_of_length_eq_zero (z3d (n:=0) h)
theorem z6n {e:Ex} {num nm:Bool} {a:Int} (h:z2o e num nm a 0=true):e.arms=[]:=by
 simp only [z2o,Bool.and_eq_true,Bool.or_eq_true,decide_eq_true_eq] at h
 rcases h.2 with h | h
 ·omega
 ·exact List.eq_nil_of_length_eq_zero (by omega)
structure Brief (T:Table):Prop where
 cons:∀n m,lget T.cons n=some m→n.size≤24
 funs:∀n f,lget T.funs n=some f→n.size≤24
 inputs:∀n t,lget T.inputs n=some t→n.size≤24
 datas:∀t d x,lget T.datas t=some d→x∈d.cons→x.name.size≤24
 dNo:lget T.datas sNo=none
structure Parts (T:Table) (e:Ex) (s:Scope):Prop where
 args:∀x∈e.args,∃s' u,(z0n x).Nodup∧Fresh s' (z0n x)∧Ty T x s' u∧∀m v,lget s' m=some v→m∈z0n e∨∃v',lget s m=some v'
 arms:∀a∈e.arms,(∃s' u,(z0n a.body).Nodup∧Fresh s' (z0n a.body)∧Ty T a.body s' u∧∀m v,lget s' m=some v→m∈z0n e∨∃v',lget s m=some v')∧∃n d c,lget T.datas n=some d∧c∈d.cons∧a.con=c.name
 name:e.name.size≤1∨e.name∈z0n e∨(∃v,lget s e.name=some v)∨(∃v,lget T.inputs e.name=some v)∨(∃m,lget T.cons e.name=some m)∨(∃f,lget T.funs e.name=some f)
 case1:e.kind=7→0 < e.args.length
 inp:e.kind=3→∃u,lget T.inputs e.name=some u
theorem typed_parts {T:Table} (hT0:lget T.datas sNo=none) {e:Ex} {s:Scope} {t:Bs} (hn0:(z0n e).Nodup) (hf0:Fresh s (z0n e)) (ht:Ty T e s t):Parts T e s:=by
  obtain ⟨ht,hne⟩:=ht
  have hka:∀x∈e.args,Keeps T x:=fun x hx=>y0p T hT0 _ x (Nat.lt_succ_self _)
  have hkb:∀a∈e.arms,Keeps T a.body:=fun a ha=>y0p T hT0 _ a.body (Nat.lt_succ_self _)
  have hbe:=z6u e
  have hn:=hn0
  have hf:=hf0
  rw [hbe] at hn hf
  have hn1:=z0p hn
  have hn2:=z0p hn1.1
  have hfa:Fresh s (bindPs e.args):=hf.sub fun m hm=>List.mem_append.2 (.inl (List.mem_append.2 (.inr hm)))
  have hfb:Fresh s (bindPa e.arms):=hf.sub fun m hm=>List.mem_append.2 (.inr hm)
  have all:∀ts,All2 (fun x t=>Ty T x s t) e.args ts→∀x∈e.args,∃s' u,(z0n x).Nodup∧Fresh s' (z0n x)∧Ty T x s' u∧∀m v,lget s' m=some v→m∈z0n e∨∃v',lget s m=some v':=fun ts ha x hx=>by
   obtain ⟨u,_,hu⟩:=All2.left ha x hx
   obtain ⟨p,q,hpq⟩:=mem_bindPs hx
   have k1:(z0n x).Nodup:=by have:=hn2.2.1;rw [hpq] at this;exact (z0p (z0p this).1).2.1
   exact ⟨s,u,k1,hfa.sub fun m hm=>by rw [hpq];simp [hm],hu,fun m v h=>.inr ⟨v,h⟩⟩
  by_cases h1:e.kind=1
  ·rw [z7x T e s h1] at ht
   simp only [numberT] at ht
   split at ht
   ·rename_i hbr
    exact ⟨by rw [bare_args0 hbr];simp,by rw [z6n hbr];simp,.inl (by rw [bare_name hbr];decide),fun h=>by omega,fun h=>by omega⟩
   ·exact absurd ht.symm hne
  by_cases h2:e.kind=2
  ·rw [z7y T e s h2] at ht
   simp only [z5n] at ht
   split at ht
   ·rename_i hbr
    cases hl:lget s e.name with
    | none=>rw [hl] at ht;exact absurd ht.symm hne
    | some u=>exact ⟨by rw [bare_args0 hbr];simp,by rw [z6n hbr];simp,.inr (.inr (.inl ⟨u,hl⟩)),fun h=>by omega,fun h=>by omega⟩
   ·exact absurd ht.symm hne
  by_cases h3:e.kind=3
  ·rw [z7v T e s h3] at ht
   simp only [inputT] at ht
   split at ht
   ·rename_i hbr
    cases hl:lget T.inputs e.name with
    | none=>rw [hl] at ht;exact absurd ht.symm hne
    | some u=>exact ⟨by rw [bare_args0 hbr];simp,by rw [z6n hbr];simp,.inr (.inr (.inr (.inl ⟨u,hl⟩))),fun h=>by omega,fun _=>⟨u,hl⟩⟩
   ·exact absurd ht.symm hne
  by_cases h4:e.kind=4
  ·rw [z7u T e s h4] at ht
   unfold conT at ht
   split at ht
   ·exact absurd ht.symm hne
   ·rename_i m hm
    split at ht
    ·rename_i hbr
     split at ht
     ·rename_i ha
      exact ⟨all _ (z7j hka hn2.2.1 hfa ha).2,by rw [z6n hbr];simp,.inr (.inr (.inr (.inr (.inl ⟨m,hm⟩)))),fun h=>by omega,fun h=>by omega⟩
     ·exact absurd ht.symm hne
    ·exact absurd ht.symm hne
  by_cases h5:e.kind=5
  ·rw [z6s T e s h5] at ht
   unfold callT at ht
   split at ht
   ·exact absurd ht.symm hne
   ·rename_i f hm
    split at ht
    ·rename_i hbr
     split at ht
     ·rename_i ha
      exact ⟨all _ (z7j hka hn2.2.1 hfa ha).2,by rw [z6n hbr];simp,.inr (.inr (.inr (.inr (.inr ⟨f,hm⟩)))),fun h=>by omega,fun h=>by omega⟩
     ·exact absurd ht.symm hne
    ·exact absurd ht.symm hne
  by_cases h6:e.kind=6
  ·rw [z7w T e s h6] at ht
   unfold letT at ht
   split at ht
   ·rename_i hbr
    have hl:=z3d (n:=2) hbr
    obtain ⟨x,y,hxy⟩:∃x y,e.args=[x,y]:=by
     cases ha:e.args with
     | nil=>rw [ha] at hl;simp at hl
     | cons a l =>
      cases l with
      | nil=>rw [ha] at hl;simp at hl
      | cons b l =>
       rw [ha] at hl
       simp only [List.length_cons] at hl
       have:l=[]:=List.eq_nil_of_length_eq_zero (by omega)
       subst this;exact ⟨a,b,rfl⟩
    have hx:e.args[0]? = some x:=by rw [hxy];rfl
    have hy:e.args[1]? = some y:=by rw [hxy];rfl
    by_cases h0:(z0c T x s).1=sNo
    ·rw [letP_no hx h0] at ht;exact absurd ht.symm hne
    ·rw [letP_yes hx hy h0] at ht
     simp only at ht
     have hmx:x∈e.args:=by rw [hxy];simp
     simp only [if_pos h6,hxy,bindPs,List.append_nil] at hn hf
     have hm1:=z0p hn
     have hm2:=z0p hm1.1
     have hm3:=z0p hm2.2.1
     have hfx:Fresh s (z0n x):=hf.sub fun m hm=>by simp [hm]
     have e1:=hka x hmx s hm3.1 hfx h0
     have hen:e.name∈z0n e:=by rw [hbe,if_pos h6];simp
     have hkey:Fresh (lput s e.name (z0c T x s).1) (z0n y):=fun m hm=>by
      rw [z4e,if_neg]
      ·exact hf m (by simp [hm])
      ·rintro rfl
       exact hm2.2.2 e.name (by simp) (by simp [hm])
     rw [e1] at ht
     refine ⟨fun z hz =>?_,by rw [z6n hbr];simp,.inr (.inl hen),fun h=>by omega,fun h=>by omega⟩
     rw [hxy] at hz
     rcases List.mem_cons.1 hz with rfl | hz
     ·exact ⟨s,_,hm3.1,hfx,⟨rfl,h0⟩,fun m v h=>.inr ⟨v,h⟩⟩
     ·rcases List.mem_cons.1 hz with rfl | hz
      ·refine ⟨_,t,hm3.2.1,hkey,⟨ht,hne⟩,fun m u hm =>?_⟩
       rw [z4e] at hm
       split at hm
       ·rename_i h;rw [h];exact .inl hen
       ·exact .inr ⟨u,hm⟩
      ·cases hz
   ·exact absurd ht.symm hne
  by_cases h7:e.kind=7
  ·rw [z6t T e s h7] at ht
   unfold z3r at ht
   split at ht
   ·rename_i hbr
    have hl:=z3d (n:=1) hbr
    obtain ⟨x,hxy⟩:∃x,e.args=[x]:=by
     cases ha:e.args with
     | nil=>rw [ha] at hl;simp at hl
     | cons a l =>
      rw [ha] at hl
      simp only [List.length_cons] at hl
      have:l=[]:=List.eq_nil_of_length_eq_zero (by omega)
      subst this;exact ⟨a,rfl⟩
    have hx:e.args[0]? = some x:=by rw [hxy];rfl
    have hmx:x∈e.args:=by rw [hxy];simp
    rw [z2h hx] at ht
    split at ht
    ·exact absurd ht.symm hne
    ·rename_i d hd
     split at ht
     ·rename_i hle
      have h0:(z0c T x s).1≠sNo:=fun e0=>by rw [e0,hT0] at hd;cases hd
      rw [hxy] at hn2 hfa
      simp only [bindPs,List.append_nil] at hn2 hfa
      have e1:=hka x hmx s hn2.2.1 hfa h0
      rw [e1] at ht
      have hsp:=splitP_inv hne hkb hle hn1.2.1 hfb ht
      refine ⟨fun z hz =>?_,fun a ha =>?_,.inl (by rw [bare_name hbr];decide),fun _=>by omega,fun h=>by omega⟩
      ·rw [hxy] at hz
       rcases List.mem_cons.1 hz with rfl | hz
       ·exact ⟨s,_,hn2.2.1,hfa,⟨rfl,h0⟩,fun m v h=>.inr ⟨v,h⟩⟩
       ·cases hz
      ·obtain ⟨k,hk,q3,q4,q5⟩:=All2.left hsp.2.1 a ha
       obtain ⟨l,r,hlr⟩:=mem_bindPa ha
       have hnn:(a.vars++z0n a.body).Nodup:=by
        have:=hn1.2.1
        rw [hlr] at this
        exact (z0p (z0p this).1).2.1
       have hff:Fresh s (a.vars++z0n a.body):=hfb.sub fun m hm=>by rw [hlr];simp at hm ⊢;rcases hm with hm | hm <;> simp [hm]
       have hnn':=z0p hnn
       refine ⟨⟨putAll s a.vars k.fields,t,hnn'.2.1,fun m hm=>by
        rw [z3o (fun hp=>hnn'.2.2 m hp hm)];exact hff m (List.mem_append.2 (.inr hm)),q5,fun m u hm =>?_⟩,_,d,k,hd,hk,q3⟩
       by_cases hv:m∈a.vars
       ·exact .inl (by rw [hbe,hlr];simp [hv])
       ·rw [z3o hv] at hm;exact .inr ⟨u,hm⟩
     ·exact absurd ht.symm hne
   ·exact absurd ht.symm hne
  by_cases h8:e.kind=8
  ·rw [y0d T e s h8] at ht
   unfold opsT at ht
   split at ht
   ·rename_i hbr
    split at ht
    ·rename_i ha
     refine ⟨all _ (z7j hka hn2.2.1 hfa ha).2,by rw [z6n hbr];simp,.inl ?_,fun h=>by omega,fun h=>by omega⟩
     simp only at ht
     unfold opT at ht
     split at ht
     ·rename_i ho
      rcases ho with h | h | h | h | h <;> rw [h] <;> decide
     ·split at ht
      ·rename_i ho
       rcases ho with h | h <;> rw [h] <;> decide
      ·exact absurd ht.symm hne
    ·exact absurd ht.symm hne
   ·exact absurd ht.symm hne
  rw [z8q T e s h1 h2 h3 h4 h5 h6 h7 h8] at ht
  exact absurd ht.symm hne
theorem wf_typed {T:Table} (hB:Brief T):∀(n:Nat) (e:Ex),e.sz < n→∀(s:Scope) (t:Bs),(z0n e).Nodup→Fresh s (z0n e)→Ty T e s t→(∀m∈z0n e,m.size≤24)→(∀m u,lget s m=some u→m.size≤24)→numsE e→wfE e=true
 | 0,_,h=>by omega
 | n+1,e,hsz=>by
  intro s t hn hf ht hb hs hnum
  obtain ⟨hi64,hna,hnb⟩:=numsE_eq hnum
  have hp:=typed_parts hB.dNo hn hf ht
  have hbx:∀x∈e.args,∀m∈z0n x,m.size≤24:=fun x hx m hm=>hb m (by
   obtain ⟨p,q,hpq⟩:=mem_bindPs hx
   rw [z6u,hpq];simp [hm])
  have hba:∀a∈e.arms,∀m∈a.vars++z0n a.body,m.size≤24:=fun a ha m hm=>hb m (by
   obtain ⟨p,q,hpq⟩:=mem_bindPa ha
   rw [z6u,hpq];simp at hm ⊢;rcases hm with hm | hm <;> simp [hm])
  have hsc:∀s':Scope,(∀m v,lget s' m=some v→m∈z0n e∨∃v',lget s m=some v')→∀m u,lget s' m=some u→m.size≤24:=fun s' h m u hm=>by
   rcases h m u hm with h | ⟨v,h⟩
   ·exact hb m h
   ·exact hs m v h
  refine wfE_of hp.case1 (fun x hx =>?_) (fun a ha =>?_) ?_ hi64
  ·obtain ⟨s',u,a1,a2,a3,a4⟩:=hp.args x hx
   exact wf_typed hB n x (by have:=Ex.lt_args hx;omega) s' u a1 a2 a3 (hbx x hx) (hsc s' a4) (hna x hx)
  ·obtain ⟨⟨s',u,a1,a2,a3,a4⟩,k,d,c,h1,h2,h3⟩:=hp.arms a ha
   exact ⟨wf_typed hB n a.body (by have:=Ex.lt_arms ha;omega) s' u a1 a2 a3 (fun m hm=>hba a ha m (List.mem_append.2 (.inr hm))) (hsc s' a4) (hnb a ha),by rw [h3];exact hB.datas _ _ _ h1 h2,
    fun v hv=>hba a ha v (List.mem_append.2 (.inl hv))⟩
  ·rcases hp.name with h | h | ⟨v,h⟩ | ⟨v,h⟩ | ⟨v,h⟩ | ⟨v,h⟩
   ·omega
   ·exact hb _ h
   ·exact hs _ _ h
   ·exact hB.inputs _ _ h
   ·exact hB.cons _ _ h
   ·exact hB.funs _ _ h
theorem quiet_typed {T:Table} (hT0:lget T.datas sNo=none) (hin:∀n,lget T.inputs n=none):∀(n:Nat) (e:Ex),e.sz < n→∀(s:Scope) (t:Bs),(z0n e).Nodup→Fresh s (z0n e)→Ty T e s t→z3u e=false
 | 0,_,h=>by omega
 | n+1,e,hsz=>by
  intro s t hn hf ht
  have hp:=typed_parts hT0 hn hf ht
  rw [z8j]
  simp only [Bool.or_eq_false_iff,decide_eq_false_iff_not,List.any_eq_false,Bool.not_eq_true]
  refine ⟨⟨fun h =>?_,fun x hx =>?_⟩,fun a ha =>?_⟩
  ·obtain ⟨u,hu⟩:=hp.inp h;rw [hin] at hu;cases hu
  ·obtain ⟨s',u,a1,a2,a3,_⟩:=hp.args x hx
   exact quiet_typed hT0 hin n x (by have:=Ex.lt_args hx;omega) s' u a1 a2 a3
  ·obtain ⟨⟨s',u,a1,a2,a3,_⟩,_⟩:=hp.arms a ha
   exact quiet_typed hT0 hin n a.body (by have:=Ex.lt_arms ha;omega) s' u a1 a2 a3
theorem z8f {s:Bs} (h:z1s s=true):s.size≤24:=by
 simp only [z1s,kindP,decide_eq_true_eq] at h
 split at h
 ·cases h
 ·omega
theorem con_size {s:Bs} (h:z2k s=true):s.size≤24:=by
 simp only [z2k,kindP,decide_eq_true_eq] at h
 split at h
 ·cases h
 ·omega
theorem brief_of {c:Core} (hR:Right c):Brief (z0f c) where
 cons n m h:=by
  rw [hR.cons] at h
  obtain ⟨d,hd,_,h2,rfl⟩:=consE_mem h
  exact con_size ((hR.dN d hd).2.2.2 _ h2)
 funs n f h:=by
  rw [hR.funs] at h
  obtain ⟨x,hx,rfl,_⟩:=z3l h
  exact z8f (hR.fN x hx)
 inputs n t h:=by
  rw [hR.inputs] at h
  obtain ⟨x,hx,rfl,_⟩:=z3l h
  exact z8f (hR.iN x hx)
 datas t d x h hx:=by
  rw [hR.datas] at h
  obtain ⟨y,hy,rfl,rfl⟩:=z3l h
  exact con_size ((hR.dN y hy).2.2.2 _ hx)
 dNo:=(sound_of (inp:=[]) hR).dNo
theorem wf_body {c:Core} (hR:Right c) {f:Fun} (hf:f∈c.funs) (hn:numsE f.body):wfE f.body=true:=by
 have h1:=hR.fOk f hf
 have h3:=h1
 simp only [z6k,Bool.and_eq_true,decide_eq_true_eq] at h1
 obtain ⟨a1,_,a3⟩:=z5w h1.1.2
 have a4:=z0p a1
 refine wf_typed (brief_of hR) _ f.body (Nat.lt_succ_self _) (z3q f.params) f.result a4.2.1 (fun m hm =>?_) ⟨h1.2,type_ne hR h1.1.1.2⟩ (fun m hm=>z8f (a3 m (List.mem_append.2 (.inr hm)))) (fun m u hm =>?_) hn
 ·rw [y0b,z3o (fun hp=>a4.2.2 m hp hm)];rfl
 ·by_cases hv:m∈f.params.map Param.name
  ·exact z8f (a3 m (List.mem_append.2 (.inl hv)))
  ·rw [y0b,z3o hv] at hm;cases hm
theorem type_size {c:Core} (hR:Right c) {t:Bs} (h:z2b (z0f c) t=true):t.size≤24:=by
 simp only [z2b,Bool.or_eq_true,decide_eq_true_eq] at h
 rcases h with h | h
 ·rw [hR.datas] at h
  cases hg:lget (ents Data.name id (truthsD::c.datas)) t with
  | none=>rw [hg] at h;cases h
  | some d =>
   obtain ⟨x,hx,rfl,_⟩:=z3l hg
   exact con_size (hR.dN x hx).1
 ·rw [h];decide
theorem inDatas_zero (name:Bs):∀(l:List Data) (n:Int) (ok:Bool),(∀d∈l,d.name≠name)→(z7f name l n ok).1=n
 | [],_,_,_=>rfl
 | d::l,n,ok,h=>by
  simp only [z7f,if_neg (h d List.mem_cons_self)]
  exact inDatas_zero name l n ok fun x hx=>h x (List.mem_cons_of_mem _ hx)
theorem inT_size {c:Core} (hR:Right c) {t:Bs} (h:z2p c.datas t=true):t.size≤24:=by
 unfold z2p at h
 split at h
 ·rename_i e;rw [e];decide
 ·simp only [Bool.and_eq_true,decide_eq_true_eq] at h
  by_cases hx:∃d∈c.datas,d.name=t
  ·obtain ⟨d,hd,rfl⟩:=hx
   exact con_size (hR.dN d (List.mem_cons_of_mem _ hd)).1
  ·have:=inDatas_zero t c.datas 0 true (fun d hd e=>hx ⟨d,hd,e⟩)
   rw [this] at h;omega
theorem lens_le {m:Nat}:∀{l:List Bs},(∀x∈l,x.size≤m)→lens l≤l.length * m
 | [],_=>by simp [lens]
 | x::l,h=>by
  have h1:=h x List.mem_cons_self
  have h2:=lens_le (l:=l) fun y hy=>h y (List.mem_cons_of_mem _ hy)
  rw [z6y,List.length_cons,Nat.add_mul];omega
theorem joinP_le (sep:Bs) (l:List Bs):(z8d sep l).size≤lens l+sep.size * l.length:=by
 cases l with
 | nil=>show 0≤_;omega
 | cons x l =>
  have:∀(l:List Bs) (a:Bs),(l.foldl (fun a s=>a++sep++s) a).size=a.size+lens l+sep.size * l.length:=by
   intro l
   induction l with
   | nil=>intro a;simp [lens]
   | cons y l ih =>
    intro a
    rw [List.foldl_cons,ih,z0h,z0h,z6y,List.length_cons,Nat.mul_add];omega
  have h:=this l x
  simp only [z8d]
  rw [h,z6y,List.length_cons,Nat.mul_add];omega
theorem con_lens {c:Core} (hR:Right c) (hl:z4y c=false) {d:Data} (hd:d∈c.datas) {x:Con} (hx:x∈d.cons):lens (x.name::x.fields)+(⟨#[32]⟩:Bs).size * (x.name::x.fields).length≤425:=by
 have h1:=con_size ((hR.dN d (List.mem_cons_of_mem _ hd)).2.2.2 x hx)
 have h2:=hR.fields d hd
 simp only [z4x,List.all_eq_true] at h2
 have h3:lens x.fields≤x.fields.length * 24:=lens_le fun y hy=>type_size hR (h2 x hx y hy)
 have h4:x.fields.length≤16:=by
  simp only [z4y,Bool.or_eq_false_iff,List.any_eq_false] at hl
  have:=hl.1.2 d hd
  simp only [longD,Bool.or_eq_true,decide_eq_true_eq,List.any_eq_true,not_or,not_exists,not_and] at this
  have:=this.2 x hx
  omega
 have h5:(⟨#[32]⟩:Bs).size=1:=rfl
 rw [h5,z6y,List.length_cons];omega
theorem data_lens {c:Core} (hR:Right c) (hl:z4y c=false) {d:Data} (hd:d∈c.datas):lens (d.cons.map conT_)+(⟨#[32,124,32]⟩:Bs).size * (d.cons.map conT_).length≤6848:=by
 have h4:d.cons.length≤16:=by
  simp only [z4y,Bool.or_eq_false_iff,List.any_eq_false] at hl
  have:=hl.1.2 d hd
  simp only [longD,Bool.or_eq_true,decide_eq_true_eq,not_or] at this
  omega
 have h3:lens (d.cons.map conT_)≤(d.cons.map conT_).length * 425:=lens_le fun y hy=>by
  obtain ⟨x,hx,rfl⟩:=List.mem_map.1 hy
  exact Nat.le_trans (joinP_le _ _) (con_lens hR hl hd hx)
 have h5:(⟨#[32,124,32]⟩:Bs).size=3:=rfl
 rw [h5];rw [List.length_map] at h3 ⊢;omega
theorem print_size {c:Core} (h:z1g c=0) (hn:∀f∈c.funs,numsE f.body):(printB c).size≤8796093022208:=by
 have hR:=z5y h
 obtain ⟨hl,_⟩:=z4h h
 have hl2:=hl
 simp only [z4y,Bool.or_eq_false_iff,decide_eq_false_iff_not] at hl2
 obtain ⟨⟨⟨⟨⟨l1,l2⟩,l3⟩,l4⟩,_⟩,_⟩:=hl2
 have k1:(catB (c.datas.map dataB)).size≤(c.datas.map dataB).length * 7000:=z9q fun y hy=>by
  obtain ⟨d,hd,rfl⟩:=List.mem_map.1 hy
  have q1:=con_size (hR.dN d (List.mem_cons_of_mem _ hd)).1
  have q2:=Nat.le_trans (joinP_le _ _) (data_lens hR hl hd)
  simp only [dataB,z0h]
  have e1:(⟨#[100,97,116,97,32]⟩:Bs).size=5:=rfl
  have e2:(⟨#[32,61,32]⟩:Bs).size=3:=rfl
  have e3:(⟨#[10]⟩:Bs).size=1:=rfl
  omega
 have k2:(catB (c.inputs.map inputB)).size≤(c.inputs.map inputB).length * 100:=z9q fun y hy=>by
  obtain ⟨p,hp,rfl⟩:=List.mem_map.1 hy
  have q1:=z8f (hR.iN p hp)
  have q2:=inT_size hR (hR.inT p hp)
  simp only [inputB,z0h]
  have e1:(⟨#[105,110,112,117,116,32]⟩:Bs).size=6:=rfl
  have e2:(⟨#[32,58,32]⟩:Bs).size=3:=rfl
  have e3:(⟨#[10]⟩:Bs).size=1:=rfl
  omega
 have k3:(catB (c.funs.map funB)).size≤(c.funs.map funB).length * 4000000:=z9q fun y hy=>by
  obtain ⟨f,hf,rfl⟩:=List.mem_map.1 hy
  have q1:=z8f (hR.fN f hf)
  have h1:=hR.fOk f hf
  simp only [z6k,Bool.and_eq_true,decide_eq_true_eq,List.all_eq_true] at h1
  have q2:=type_size hR h1.1.1.2
  have q3:=long_fun hl hf
  obtain ⟨m,hm1,hm2⟩:=z9w hl hf
  have q4:=write_short f.body m (wf_body hR hf (hn f hf)) hm2
  have q5:=(z4n f.body m hm2).1
  have q6:=z2w f.body
  have q7:(catB (f.params.map paramB)).size≤(f.params.map paramB).length * 100:=z9q fun z hz=>by
   obtain ⟨p,hp,rfl⟩:=List.mem_map.1 hz
   have r1:=z8f ((z5w h1.1.2).2.2 p.name (List.mem_append.2 (.inl (List.mem_map_of_mem hp))))
   have r2:=type_size hR (h1.1.1.1 p hp)
   simp only [paramB,z0h]
   have e1:(⟨#[32,40]⟩:Bs).size=2:=rfl
   have e2:(⟨#[32,58,32]⟩:Bs).size=3:=rfl
   have e3:(⟨#[41]⟩:Bs).size=1:=rfl
   omega
  rw [List.length_map] at q7
  simp only [funB,z0h]
  have e1:(⟨#[102,117,110,32]⟩:Bs).size=4:=rfl
  have e2:(⟨#[32,58,32]⟩:Bs).size=3:=rfl
  have e3:(⟨#[32,61,32]⟩:Bs).size=3:=rfl
  have e4:(⟨#[10]⟩:Bs).size=1:=rfl
  omega
 have k4:(catB (c.outputs.map outB)).size≤(c.outputs.map outB).length * 100:=z9q fun y hy=>by
  obtain ⟨o,ho,rfl⟩:=List.mem_map.1 hy
  obtain ⟨f,hf,_⟩:=outsOk_get hR.oOk o ho
  have q1:=(brief_of hR).funs _ _ hf
  simp only [outB,z0h]
  have e1:(⟨#[111,117,116,112,117,116,32]⟩:Bs).size=7:=rfl
  have e3:(⟨#[10]⟩:Bs).size=1:=rfl
  omega
 rw [List.length_map] at k1 k2 k3 k4
 simp only [printB,z0h]
 omega
end Go.Sw

namespace Go.Sw
theorem quiet_all {c:Core} (hR:Right c) (hin:c.inputs=[]) (n:Bs):¬z5p (z0f c) n:=by
 rintro ⟨x,_,hx⟩
 cases hf:lget (z0f c).funs x with
 | none=>rw [fbody_none hf] at hx;simp [ex0,z3u,readsPs,readsPa] at hx
 | some f =>
  rw [z9u hf] at hx
  have hg:=fun_good (C:=⟨(z0f c).funs,[]⟩) (sound_of hR) hf
  have a4:=z0p hg.nodup
  have:=quiet_typed (sound_of (inp:=[]) hR).dNo (fun n=>by rw [hR.inputs,hin];rfl) _ f.body (Nat.lt_succ_self _) (z3q f.params) f.result a4.2.1 (fun m hm=>by
   rw [y0b,z3o (fun hp=>a4.2.2 m hp hm)];rfl) hg.ty
  rw [this] at hx;cases hx
theorem call_add {c:Core} {o:Bs} {f:Fun} {v:Val} {g1 g2:Nat} (h0:z1g c=0) (hin:c.inputs=[]) (hf:lget (z0f c).funs o=some f) (hp:f.params=[])
  (h:z5e (z2g ⟨(z0f c).funs,[]⟩) f [] g1=.ok v g2) (hg:g1≤4000) (hl:z6e v=false):z1f c o [] 4001=(v,((g1 - g2+1:Nat):Int),0):=by
 have hlt:=z9i h
 have h2:=call_fuel h (4000 - (g1 - g2))
 rw [show g1 - g2+(4000 - (g1 - g2))=(4001:Int).toNat - 1 by simp;omega] at h2
 rw [callAll_end h0 (by omega) hf (by rw [hp];rfl) (quiet_all (z5y h0) hin o),callEnd_ok (by decide) h2 hl]
 simp only [Prod.mk.injEq,true_and,and_true]
 simp;omega
noncomputable def costP (c:Core) (o:Bs):Int:=(z1f c o [] 4001).2.1
theorem adds_all {c:Core} (h0:z1g c=0) (hin:c.inputs=[]):∀{os:List Bs} {g r:Nat} {vs:List Val},(∀o∈os,o∈c.outputs)→g≤4000→z3y ⟨(z0f c).funs,[]⟩ os g=.ok vs r→vs.any z6e=false →
  All2 (fun o v=>(z1f c o [] 4001).1=v∧(z1f c o [] 4001).2.2=0∧0≤costP c o∧costP c o≤4001) os vs∧(os.map (costP c)).sum=((g - r:Nat):Int)+os.length∧r≤g
 | [],g,r,vs,_,_,h,_=>by
  simp only [z3y,Ev.ok.injEq] at h
  obtain ⟨rfl,rfl⟩:=h
  exact ⟨trivial,by simp,Nat.le_refl _⟩
 | o::os,g,r,vs,ho,hg,h,hl=>by
  obtain ⟨f,hf,hp⟩:=outsOk_get (z5y h0).oOk o (ho o List.mem_cons_self)
  rw [z8h hf] at h
  obtain ⟨v,g1,e1,e2⟩:=Ev.bind_ok h
  obtain ⟨l,g2,e3,e4⟩:=Ev.bind_ok e2
  simp only [Ev.ok.injEq] at e4
  obtain ⟨rfl,rfl⟩:=e4
  simp only [List.any_cons,Bool.or_eq_false_iff] at hl
  have hlt:=z9i e1
  obtain ⟨k1,k2,k3⟩:=adds_all h0 hin (fun x hx=>ho x (List.mem_cons_of_mem _ hx)) (by omega) e3 hl.2
  have hc:=call_add h0 hin hf hp e1 hg hl.1
  refine ⟨⟨⟨by rw [hc],by rw [hc],by simp only [costP,hc];omega,by simp only [costP,hc];omega⟩,k1⟩,?_,by omega⟩
  simp only [List.map_cons,List.sum_cons,k2,List.length_cons,costP,hc]
  omega
end Go.Sw

namespace Go.Sw
section
variable {ws:List Bs} {i:Nat}
theorem rbind_ok {α β:Type} {r:Rd α} {f:α→Nat→Rd β} {y:β×Nat} (h:z1t r f=.ok y):∃x j,r=.ok (x,j)∧f x j=.ok y:=by
 unfold z1t at h
 split at h
 ·exact ⟨_,_,rfl,h⟩
 ·cases h
theorem z0b {α β:Type} {r:Rd α} {f:α→Nat→Rd β} {x:α×Nat} (h:r=.ok x):z1t r f=f x.1 x.2:=by subst h;rfl
theorem z0j {α β:Type} {r:Rd α} {f:α→Nat→Rd β} {n:Nat} (h:r=.error n):z1t r f=.error n:=by subst h;rfl
theorem z6g (h:¬z0e ws i=⟨#[]⟩):i < ws.length:=by
 refine Classical.byContradiction fun hn=>h ?_
 unfold z0e
 rw [List.getD_eq_getElem?_getD,List.getElem?_eq_none (by omega)];rfl
theorem z2t {x:Bs} (h:ws[i]? = some x):z0e ws i=x:=by unfold z0e;rw [List.getD_eq_getElem?_getD,h];rfl
theorem peek_end (h:¬i < ws.length):z0e ws i=⟨#[]⟩:=by unfold z0e;rw [List.getD_eq_getElem?_getD,List.getElem?_eq_none (by omega)];rfl
theorem takeP_ok {p:Bs→Bool} (h:¬z0e ws i=⟨#[]⟩) (hp:p (z0e ws i)=true):z9l ws p i=.ok (z0e ws i,i+1):=by
 unfold z9l;rw [if_neg];rintro (h2 | h2);exact h h2;rw [hp] at h2;cases h2
theorem takeP_no {p:Bs→Bool} (h:z0e ws i=⟨#[]⟩):z9l ws p i=.error (i+1):=by unfold z9l;rw [if_pos (.inl h)]
theorem takeP_bad {p:Bs→Bool} (h:p (z0e ws i)=false):z9l ws p i=.error (i+1):=by unfold z9l;rw [if_pos (.inr h)]
theorem takeP_inv {p:Bs→Bool} {x:Bs×Nat} (h:z9l ws p i=.ok x):x.2=i+1∧i < ws.length∧p x.1=true:=by
 unfold z9l at h
 split at h
 ·cases h
 ·rename_i hn
  simp only [Except.ok.injEq] at h
  subst h
  exact ⟨rfl,z6g fun e=>hn (.inl e),by cases hp:p (z0e ws i) with | true=>rfl | false=>exact absurd (.inr hp) hn⟩
theorem nextP_ok {w:Bs} {x:Bs×Nat} (h:z9l ws (fun s=>decide (s=w)) i=.ok x):z7a ws w i=.ok ((),x.2):=by unfold z7a;rw [z0b h]
theorem nextP_err {w:Bs} {n:Nat} (h:z9l ws (fun s=>decide (s=w)) i=.error n):z7a ws w i=.error n:=by unfold z7a;rw [z0j h]
theorem nextP_inv {w:Bs} {x:Unit×Nat} (h:z7a ws w i=.ok x):x.2=i+1∧i < ws.length:=by
 obtain ⟨y,j,h1,h2⟩:=rbind_ok h
 have:=takeP_inv h1
 simp only [Except.ok.injEq] at h2
 subst h2;exact ⟨this.1,this.2.1⟩
def Goes (ws:List Bs) {α:Type} (f:Nat→Rd α):Prop:=∀i x,f i=.ok x→i < x.2∧x.2≤ws.length
def Stays (ws:List Bs) {α:Type} (f:Nat→Rd α):Prop:=∀i x,i≤ws.length→f i=.ok x→i≤x.2∧x.2≤ws.length
theorem Goes.stays {α:Type} {f:Nat→Rd α} (h:Goes ws f):Stays ws f:=fun i x _ hx=>⟨Nat.le_of_lt (h i x hx).1,(h i x hx).2⟩
theorem z3h (p:Bs→Bool):Goes ws (z9l ws p):=fun i x h=>by have:=takeP_inv h;omega
theorem z5k (w:Bs):Goes ws (z7a ws w):=fun i x h=>by have:=nextP_inv h;omega
theorem Goes.bind {α β:Type} {f:Nat→Rd α} {g:α→Nat→Rd β} (hf:Goes ws f) (hg:∀x,Stays ws (g x)):Goes ws (fun i=>z1t (f i) g):=fun i y h=>by
 obtain ⟨x,j,h1,h2⟩:=rbind_ok h
 have h3:=hf i _ h1
 have h4:=hg x j y h3.2 h2
 simp only at h3;omega
theorem Stays.bind {α β:Type} {f:Nat→Rd α} {g:α→Nat→Rd β} (hf:Stays ws f) (hg:∀x,Stays ws (g x)):Stays ws (fun i=>z1t (f i) g):=fun i y hi h=>by
 obtain ⟨x,j,h1,h2⟩:=rbind_ok h
 have h3:=hf i _ hi h1
 have h4:=hg x j y h3.2 h2
 simp only at h3;omega
theorem Stays.ok {α:Type} (x:α):Stays ws (fun i=>.ok (x,i)):=fun i y hi h=>by simp only [Except.ok.injEq] at h;subst h;exact ⟨Nat.le_refl _,hi⟩
theorem Stays.from {α:Type} {f:Nat→Rd α} (h:Stays ws f) {j:Nat} {y:α×Nat} (hj:i < j) (hl:j≤ws.length) (hy:f j=.ok y):i < y.2∧y.2≤ws.length:=by
 have:=h j y hl hy;omega
theorem list_stays {ex:Nat→Rd Ex} (he:Goes ws ex):∀f least,Stays ws (z6q ws ex f least)
 | 0,_=>fun i x _ h=>by cases h
 | f+1,least=>fun i x hi h=>by
  simp only [z6q] at h
  split at h
  ·exact (he.bind fun e=>(list_stays he f (least - 1)).bind fun l=>Stays.ok _).stays i x hi h
  ·exact Stays.ok _ i x hi h
theorem two_goes {ex:Nat→Rd Ex} (he:Goes ws ex):Goes ws (twoP ex):=he.bind fun _=>(he.bind fun _=>Stays.ok _).stays
theorem vars_stays:∀f,Stays ws (varsP ws f)
 | 0=>fun i x _ h=>by cases h
 | f+1=>fun i x hi h=>by
  simp only [varsP] at h
  split at h
  ·exact ((z3h z1s).bind fun e=>(vars_stays f).bind fun l=>Stays.ok _).stays i x hi h
  ·exact Stays.ok _ i x hi h
theorem arm_goes {ex:Nat→Rd Ex} (he:Goes ws ex):Goes ws (armP ws ex) :=
 (z5k _).bind fun _=>(z3h z2k).stays.bind fun _=>(vars_stays _).bind fun _=>(z5k _).stays.bind fun _=>he.stays.bind fun _=>(z5k _).stays.bind fun _=>Stays.ok _
theorem arms_stays {ex:Nat→Rd Ex} (he:Goes ws ex):∀f b,Stays ws (armsP ws ex f b)
 | 0,_=>fun i x _ h=>by cases h
 | f+1,b=>fun i x hi h=>by
  simp only [armsP] at h
  split at h
  ·exact ((arm_goes he).bind fun e=>(arms_stays he f false).bind fun l=>Stays.ok _).stays i x hi h
  ·exact Stays.ok _ i x hi h
theorem form_goes {ex:Nat→Rd Ex} (he:Goes ws ex):Goes ws (z1z ws ex):=fun i x h=>by
 have lt:∀{s:Bs},s≠⟨#[]⟩→z0e ws i=s→i+1≤ws.length:=fun hs e=>z6g (by rw [e];exact hs)
 unfold z1z at h
 split at h
 ·rename_i hop
  have:i+1≤ws.length:=z6g fun e=>by rw [e] at hop;exact absurd hop (by decide)
  exact Stays.from (i:=i) ((two_goes he).stays.bind fun _=>Stays.ok _) (Nat.lt_succ_self _) this h
 split at h
 ·rename_i e
  exact Stays.from (i:=i) ((z3h z1s).stays.bind fun _=>(two_goes he).stays.bind fun _=>Stays.ok _) (Nat.lt_succ_self _) (lt (by decide) e) h
 split at h
 ·rename_i e
  exact Stays.from (i:=i) (he.stays.bind fun _=>(arms_stays he _ _).bind fun _=>Stays.ok _) (Nat.lt_succ_self _) (lt (by decide) e) h
 split at h
 ·rename_i hc
  have:i+1≤ws.length:=z6g fun e=>by rw [e] at hc;exact absurd hc (by decide)
  exact Stays.from (i:=i) ((list_stays he _ _).bind fun _=>Stays.ok _) (Nat.lt_succ_self _) this h
 ·exact ((z3h z1s).bind fun _=>(list_stays he _ _).bind fun _=>Stays.ok _) i x h
theorem z3n:∀d,Goes ws (z0q ws d)
 | 0=>fun i x h=>by cases h
 | d+1=>fun i x h=>by
  simp only [z0q] at h
  split at h
  ·cases h
  rename_i hne
  have hl:i+1≤ws.length:=z6g hne
  split at h
  ·simp only [Except.ok.injEq] at h;subst h;exact ⟨Nat.lt_succ_self _,hl⟩
  split at h
  ·exact Stays.from (i:=i) ((form_goes (z3n d)).stays.bind fun _=>(z5k _).stays.bind fun _=>Stays.ok _) (Nat.lt_succ_self _) hl h
  split at h
  ·simp only [Except.ok.injEq] at h;subst h;exact ⟨Nat.lt_succ_self _,hl⟩
  split at h
  ·simp only [Except.ok.injEq] at h;subst h;exact ⟨Nat.lt_succ_self _,hl⟩
  ·exact ((z3h z1s).bind fun _=>Stays.ok _) i x h
theorem fields_stays:∀f,Stays ws (z4l ws f)
 | 0=>fun i x _ h=>by cases h
 | f+1=>fun i x hi h=>by
  simp only [z4l] at h
  split at h
  ·exact ((z3h z2k).bind fun e=>(fields_stays f).bind fun l=>Stays.ok _).stays i x hi h
  ·exact Stays.ok _ i x hi h
theorem params_stays:∀f,Stays ws (z5g ws f)
 | 0=>fun i x _ h=>by cases h
 | f+1=>fun i x hi h=>by
  simp only [z5g] at h
  split at h
  ·rename_i e
   have hl:i+1≤ws.length:=z6g (by rw [e];decide)
   have:=Stays.from (i:=i) (((z3h z1s).bind fun n=>((z5k sColon).bind fun _=>((z3h z2k).bind fun t=>Stays.ok (⟨n,t⟩:Param)).stays).stays).stays.bind fun _=>(z5k sCls).stays.bind fun _=>(params_stays f).bind fun _=>Stays.ok _) (Nat.lt_succ_self _) hl h
   omega
  ·exact Stays.ok _ i x hi h
theorem param_goes:Goes ws (z6f ws):=(z3h z1s).bind fun _=>(z5k _).stays.bind fun _=>(z3h z2k).stays.bind fun _=>Stays.ok _
theorem cons_goes:∀f,Goes ws (consP ws f)
 | 0=>fun i x h=>by cases h
 | f+1=>by
  refine (z3h z2k).bind fun n=>(fields_stays _).bind fun l =>?_
  intro i x hi h
  simp only at h
  split at h
  ·exact Stays.ok _ i x hi h
  ·rename_i e
   have e':z0e ws i=sBar:=Classical.byContradiction fun hh=>e hh
   have hl:i+1≤ws.length:=z6g (by rw [e'];decide)
   have:=Stays.from (i:=i) ((cons_goes f).stays.bind fun _=>Stays.ok _) (Nat.lt_succ_self _) hl h
   omega
theorem data_goes:Goes ws (dataP ws):=(z3h z2k).bind fun _=>(z5k _).stays.bind fun _=>(cons_goes _).stays.bind fun _=>Stays.ok _
theorem fun_goes:Goes ws (funP ws):=(z3h z1s).bind fun _=>(params_stays _).bind fun _=>(z5k _).stays.bind fun _=>(z3h z2k).stays.bind fun _=>(z5k _).stays.bind fun _=>(z3n _).stays.bind fun _=>Stays.ok _
end
end Go.Sw

namespace Go.Sw
open Go.Proofs
def z8s (n:Nat):List PanicEntry:=[{ v:=.iface 204 (.agg #[.int .i64 ((n:Nat):Int)]),recovered:=false }]
section
variable {P:Program} {n:Nat} {E:List (Nat×Value)} {D:List Deferred} {a:Act} {Φ Ψ:Fz} {K:List Res} {w:World}
variable {Kn:Value→World→Prop} {Qp:List PanicEntry→World→Prop} {dst:Option Tmp} {ty:TypeId} {pos:String} {aft:Array Edge} {g:Option (Nat×Bool)}
theorem z9r {f:FuncId} {xs:Array Operand} {ts:Array TypeId} {vs:List Value} {c:List PanicEntry} {Φ2:Fz} {KE:List Res}
  (he:EnvR n E D a) (hx:evs E xs.toList=some vs) (hf:∀args w,(callFunc f args).run P w=.ok (.enter f args) w)
  (hc:Calls P f vs.toArray w (fun e w'=>e=.panicked c∧Mem Φ2 KE w')) (kp:∀w',Mem Φ2 KE w'→Qp c w') :
  Oper.eff P ⟨dst,.call { callee:=.value (.func f),args:=xs,argTypes:=ts },ty,pos,aft,g⟩ a w Kn Qp :=
 z7l he hx hf hc (fun v w' h=>by cases h.1) (fun c w' h=>by cases h.1;exact kp _ h.2) (fun w' h=>by cases h.1)
end
theorem intP_some {s:Bs} {v:Int} (h:atoiC s=.ok v) (hd:itoaP v=s):intP s=some v:=by simp [intP,h,hd]
theorem intP_ne {s:Bs} {v:Int} (h:atoiC s=.ok v) (hd:¬itoaP v=s):intP s=none:=by simp [intP,h,hd]
theorem intP_err {s:Bs} {u:Unit} (h:atoiC s=.error u):intP s=none:=by simp [intP,h]
theorem intP_i64 {s:Bs} {v:Int} (h:intP s=some v):I64 v:=by
 unfold intP at h
 split at h
 ·rename_i v' h2
  split at h
  ·simp only [Option.some.injEq] at h;subst h;exact atoi_i64 h2
  ·cases h
 ·cases h
theorem z2q {ws:List Bs} {i:Nat} {p:Bs→Bool} {x:Bs×Nat} (h:z9l ws p i=.ok x):x.2=i+1∧x.2≤ws.length:=by have:=takeP_inv h;omega
theorem z5q {ws:List Bs} {i:Nat} {w:Bs} {x:Unit×Nat} (h:z7a ws w i=.ok x):x.2=i+1∧x.2≤ws.length:=by have:=nextP_inv h;omega
end Go.Sw

namespace Go.Sw
open Go.Proofs
def ExprOk (ws:List Bs) (d:Nat):Prop:=∀{Φ:Fz} {K:List Res} {w:World} {r i:Nat} {rs:Value},Glob Φ→SliceOf RStr Φ 1 rs ws→i≤ws.length →
  Mem Φ (.blk r (ob [rs,.int .i64 ((i:Nat):Int)] 208)::K) w →
  Calls Tryz.prog 180 (List.toArray [.pointer (some ⟨r,0,none⟩),.int .i64 ((d:Nat):Int)]) w (fun ee w'=>Out (z0q ws d i)
   (fun x=>∃y:Fz×List Value,ee=.returned (.agg y.2.toArray)∧(Φ.Le y.1∧REx y.1 y.2 x.1)∧Mem y.1 (.blk r (ob [rs,.int .i64 ((x.2:Nat):Int)] 208)::K) w')
   (fun c=>ee=.panicked (z8s c)∧Mem Φ K w'))
theorem i64_0:I64 0:=⟨by decide,by decide⟩
theorem REx.leaf {Φ:Fz} {k n:Int} {s:Bs} (h:I64 n):REx Φ [.int .i64 k,.int .i64 n,.string s,.slice none 0 0,.slice none 0 0] (.mk k n s [] []) :=
 REx.iff.2 ⟨_,_,rfl,h,SliceOf.nil 5,SliceOf.nil 7⟩
theorem REx.node {Φ:Fz} {k:Int} {s:Bs} {v:Value} {l:List Ex} (h:SliceOf REx Φ 5 v l):REx Φ [.int .i64 k,.int .i64 0,.string s,v,.slice none 0 0] (.mk k 0 s l []) :=
 REx.iff.2 ⟨_,_,rfl,i64_0,h,SliceOf.nil 7⟩
theorem REx.full {Φ:Fz} {k:Int} {s:Bs} {v u:Value} {l:List Ex} {m:List Arm} (h:SliceOf REx Φ 5 v l) (h2:SliceOf RArm Φ 7 u m):REx Φ [.int .i64 k,.int .i64 0,.string s,v,u] (.mk k 0 s l m) :=
 REx.iff.2 ⟨_,_,rfl,i64_0,h,h2⟩
theorem Chunks.one {α:Type} {R:List Value→α→Prop} {k:Nat} {a:List Value} {x:α} (la:a.length=k) (ha:R a x):Chunks R k a [x]:=⟨a,[],by simp,la,ha,rfl⟩
theorem Chunks.two {α:Type} {R:List Value→α→Prop} {k:Nat} {a b:List Value} {x y:α} (la:a.length=k) (ha:R a x) (lb:b.length=k) (hb:R b y):Chunks R k (a++b) [x,y]:=⟨a,b,rfl,la,ha,Chunks.one lb hb⟩
section
variable {P:Program} {n:Nat} {E:List (Nat×Value)} {D:List Deferred} {a:Act} {Φ:Fz} {K:List Res} {w:World} {ty:TypeId}
theorem y_len_gs (i m:Nat) {x:Operand} {t e T:TypeId} {k:Nat} {v:Value} {cs:List Value} (he:EnvR n E D a) (hs:Sees Φ K w) (hx:ev E x=some v) (hk:kget K i=some (.gs v T k cs)) (hl:cs.length=m * k) (h0:0 < k) (ht:Under P t (.slice e)) :
  Ok P a (.call { callee:=.builtin .len,args:=#[x],argTypes:=#[t] }) ty w (.int .i64 ((m:Nat):Int)):=by
 obtain ⟨p,m',c,rfl,h1,_⟩:=hs.gsForm hk
 have:m'=m:=Nat.eq_of_mul_eq_mul_right h0 (h1.symm.trans hl)
 subst this
 exact y_len_slice he hx ht
end
section
variable {ws:List Bs} {i d:Nat}
theorem expr_zero:z0q ws 0 i=.error (i+1):=rfl
theorem expr_no (h:z0e ws i=⟨#[]⟩):z0q ws (d+1) i=.error (i+1):=by rw [z0q,if_pos (show z0e ws i=sNo from h)]
theorem expr_num {n:Int} (h:¬z0e ws i=⟨#[]⟩) (hn:intP (z0e ws i)=some n):z0q ws (d+1) i=.ok (.mk 1 n sNo [] [],i+1):=by
 rw [z0q,if_neg (show ¬z0e ws i=sNo from h),hn]
theorem expr_fe {c:Nat} (h:¬z0e ws i=⟨#[]⟩) (hn:intP (z0e ws i)=none) (ho:z0e ws i=⟨#[40]⟩) (hf:z1z ws (z0q ws d) (i+1)=.error c):z0q ws (d+1) i=.error c:=by
 rw [z0q,if_neg (show ¬z0e ws i=sNo from h),hn];show (if z0e ws i=sOpn then _ else _)=_;rw [if_pos (show z0e ws i=sOpn from ho),z0j hf]
theorem expr_fc {c:Nat} {x:Ex×Nat} (h:¬z0e ws i=⟨#[]⟩) (hn:intP (z0e ws i)=none) (ho:z0e ws i=⟨#[40]⟩) (hf:z1z ws (z0q ws d) (i+1)=.ok x) (hc:z7a ws ⟨#[41]⟩ x.2=.error c):z0q ws (d+1) i=.error c:=by
 rw [z0q,if_neg (show ¬z0e ws i=sNo from h),hn];show (if z0e ws i=sOpn then _ else _)=_;rw [if_pos (show z0e ws i=sOpn from ho),z0b hf];exact z0j hc
theorem expr_form {x:Ex×Nat} {y:Unit×Nat} (h:¬z0e ws i=⟨#[]⟩) (hn:intP (z0e ws i)=none) (ho:z0e ws i=⟨#[40]⟩) (hf:z1z ws (z0q ws d) (i+1)=.ok x) (hc:z7a ws ⟨#[41]⟩ x.2=.ok y):z0q ws (d+1) i=.ok (x.1,y.2):=by
 rw [z0q,if_neg (show ¬z0e ws i=sNo from h),hn];show (if z0e ws i=sOpn then _ else _)=_;rw [if_pos (show z0e ws i=sOpn from ho),z0b hf];exact z0b hc
theorem expr_con {x:Bs×Nat} (h:¬z0e ws i=⟨#[]⟩) (hn:intP (z0e ws i)=none) (ho:¬z0e ws i=⟨#[40]⟩) (hc:z2k (z0e ws i)=true) (hx:rcon ws i=.ok x):z0q ws (d+1) i=.ok (.mk 4 0 x.1 [] [],x.2):=by
 have hx':=(takeP_ok h hc).symm.trans hx
 simp only [Except.ok.injEq] at hx';subst hx'
 rw [z0q,if_neg (show ¬z0e ws i=sNo from h),hn];show (if z0e ws i=sOpn then _ else _)=_;rw [if_neg (show ¬z0e ws i=sOpn from ho),if_pos hc]
theorem expr_conE {c:Nat} {Q:Prop} (h:¬z0e ws i=⟨#[]⟩) (hc:z2k (z0e ws i)=true) (hx:rcon ws i=.error c):Q:=by cases (takeP_ok h hc).symm.trans hx
theorem expr_input (h:¬z0e ws i=⟨#[]⟩) (hn:intP (z0e ws i)=none) (ho:¬z0e ws i=⟨#[40]⟩) (hc:z2k (z0e ws i)=false) (hb:z0m (z0e ws i) 0=33) (hi:z1s ((z0e ws i).extract 1 (z0e ws i).size)=true) :
  z0q ws (d+1) i=.ok (.mk 3 0 ((z0e ws i).extract 1 (z0e ws i).size) [] [],i+1):=by
 rw [z0q,if_neg (show ¬z0e ws i=sNo from h),hn];show (if z0e ws i=sOpn then _ else _)=_;rw [if_neg (show ¬z0e ws i=sOpn from ho),if_neg (by rw [hc];decide),if_pos ⟨hb,hi⟩]
theorem expr_var0 (h:¬z0e ws i=⟨#[]⟩) (hn:intP (z0e ws i)=none) (ho:¬z0e ws i=⟨#[40]⟩) (hc:z2k (z0e ws i)=false) (hb:¬(z0m (z0e ws i) 0=33∧z1s ((z0e ws i).extract 1 (z0e ws i).size)=true)) :
  z0q ws (d+1) i=z1t (y0v ws i) fun x j=>.ok (.mk 2 0 x [] [],j):=by
 rw [z0q,if_neg (show ¬z0e ws i=sNo from h),hn];show (if z0e ws i=sOpn then _ else _)=_;rw [if_neg (show ¬z0e ws i=sOpn from ho),if_neg (by rw [hc];decide),if_neg hb]
theorem size_pos {s:Bs} (h:¬s=⟨#[]⟩):0 < s.size:=by
 refine Nat.pos_of_ne_zero fun e=>h ?_
 apply ByteArray.ext
 exact Array.eq_empty_of_size_eq_zero e
variable {ex:Nat→Rd Ex} {f least:Nat}
theorem list_end (h:¬0 < least) (h2:z0e ws i=⟨#[41]⟩):z6q ws ex (f+1) least i=.ok ([],i):=by
 rw [z6q,if_neg];rintro (h3 | h3);exact h h3;exact h3 h2
theorem list_on (h:0 < least∨¬z0e ws i=⟨#[41]⟩):z6q ws ex (f+1) least i=z1t (ex i) fun e i=>z1t (z6q ws ex f (least - 1) i) fun l i=>.ok (e::l,i):=by
 rw [z6q,if_pos];exact h.imp_right fun h=>h
end
def pre1 {α:Type} (xs:List α) (r:Rd (List α)):Rd (List α):=z1t r fun l k=>.ok (xs++l,k)
theorem y0u {α:Type} (r:Rd (List α)):r=pre1 [] r:=by
 unfold pre1;cases r with
 | ok x=>rfl
 | error c=>rfl
theorem pre1_ok {α:Type} (xs:List α) (l:List α) (k:Nat):pre1 xs (.ok (l,k))=.ok (xs++l,k):=rfl
theorem y0a {α:Type} (xs:List α) (x:α) (r:Rd (List α)):pre1 xs (z1t r fun l k=>.ok (x::l,k))=pre1 (xs++[x]) r:=by
 unfold pre1;cases r with
 | ok y=>simp [z1t]
 | error c=>rfl
section
variable {ws:List Bs} {ex:Nat→Rd Ex} {f m j:Nat} {r:Rd (List Ex)} {xs:List Ex}
theorem list_fin (hI:r=pre1 xs (z6q ws ex f (m - xs.length) j)) (hf:0 < f) (h:¬xs.length < m) (h2:z0e ws j=⟨#[41]⟩):r=.ok (xs,j):=by
 obtain ⟨f,rfl⟩:∃k,f=k+1:=⟨f - 1,by omega⟩
 rw [hI,list_end (by omega) h2,pre1_ok,List.append_nil]
theorem list_fail {c:Nat} (hI:r=pre1 xs (z6q ws ex f (m - xs.length) j)) (hf:0 < f) (h:xs.length < m∨¬z0e ws j=⟨#[41]⟩) (he:ex j=.error c):r=.error c:=by
 obtain ⟨f,rfl⟩:∃k,f=k+1:=⟨f - 1,by omega⟩
 rw [hI,list_on (h.imp_left fun h=>by omega),z0j he];rfl
theorem list_step {x:Ex×Nat} (hI:r=pre1 xs (z6q ws ex f (m - xs.length) j)) (hf:0 < f) (h:xs.length < m∨¬z0e ws j=⟨#[41]⟩) (he:ex j=.ok x) :
  r=pre1 (xs++[x.1]) (z6q ws ex (f - 1) (m - (xs++[x.1]).length) x.2):=by
 obtain ⟨f,rfl⟩:∃k,f=k+1:=⟨f - 1,by omega⟩
 rw [hI,list_on (h.imp_left fun h=>by omega),z0b he,y0a,Nat.add_sub_cancel,List.length_append,Nat.sub_sub];rfl
end
section
variable {ws:List Bs} {ex:Nat→Rd Ex} {f j:Nat} {r:Rd (List Arm)} {xs:List Arm}
theorem arms_fin (hI:r=pre1 xs (armsP ws ex f (decide (xs.length=0)) j)) (hf:0 < f) (h:¬xs.length=0) (h2:¬z0e ws j=⟨#[40]⟩):r=.ok (xs,j):=by
 obtain ⟨f,rfl⟩:∃k,f=k+1:=⟨f - 1,by omega⟩
 rw [hI,armsP,if_neg (by rintro (h3 | h3);exact h (of_decide_eq_true h3);exact h2 h3)];simp [pre1,z1t]
theorem z4a {c:Nat} (hI:r=pre1 xs (armsP ws ex f (decide (xs.length=0)) j)) (hf:0 < f) (h:xs.length=0∨z0e ws j=⟨#[40]⟩) (he:armP ws ex j=.error c):r=.error c:=by
 obtain ⟨f,rfl⟩:∃k,f=k+1:=⟨f - 1,by omega⟩
 rw [hI,armsP,if_pos (show decide (xs.length=0)=true∨z0e ws j=sOpn from h.imp_left fun h=>decide_eq_true h),z0j he];rfl
theorem arms_step {x:Arm×Nat} (hI:r=pre1 xs (armsP ws ex f (decide (xs.length=0)) j)) (hf:0 < f) (h:xs.length=0∨z0e ws j=⟨#[40]⟩) (he:armP ws ex j=.ok x):r=pre1 (xs++[x.1]) (armsP ws ex (f - 1) (decide ((xs++[x.1]).length=0)) x.2):=by
 obtain ⟨f,rfl⟩:∃k,f=k+1:=⟨f - 1,by omega⟩
 rw [hI,armsP,if_pos (show decide (xs.length=0)=true∨z0e ws j=sOpn from h.imp_left fun h=>decide_eq_true h),z0b he,y0a,Nat.add_sub_cancel];simp
end
section
variable {ws:List Bs} {f j:Nat} {r:Rd (List Bs)} {xs:List Bs}
theorem vars_fin (hI:r=pre1 xs (varsP ws f j)) (hf:0 < f) (h:z0e ws j=⟨#[45,62]⟩):r=.ok (xs,j):=by
 obtain ⟨f,rfl⟩:∃k,f=k+1:=⟨f - 1,by omega⟩
 rw [hI,varsP,if_neg (fun h3=>h3 h)];simp [pre1,z1t]
theorem vars_fail {c:Nat} (hI:r=pre1 xs (varsP ws f j)) (hf:0 < f) (h:¬z0e ws j=⟨#[45,62]⟩) (he:y0v ws j=.error c):r=.error c:=by
 obtain ⟨f,rfl⟩:∃k,f=k+1:=⟨f - 1,by omega⟩
 rw [hI,varsP,if_pos (show z0e ws j≠sArrow from h),z0j he];rfl
theorem vars_step {x:Bs×Nat} (hI:r=pre1 xs (varsP ws f j)) (hf:0 < f) (h:¬z0e ws j=⟨#[45,62]⟩) (he:y0v ws j=.ok x):r=pre1 (xs++[x.1]) (varsP ws (f - 1) x.2):=by
 obtain ⟨f,rfl⟩:∃k,f=k+1:=⟨f - 1,by omega⟩
 rw [hI,varsP,if_pos (show z0e ws j≠sArrow from h),z0b he,y0a,Nat.add_sub_cancel]
end
section
variable {ws:List Bs} {f j:Nat} {r:Rd (List Bs)} {xs:List Bs}
theorem fields_fin (hI:r=pre1 xs (z4l ws f j)) (hf:0 < f) (h:z2k (z0e ws j)=false):r=.ok (xs,j):=by
 obtain ⟨f,rfl⟩:∃k,f=k+1:=⟨f - 1,by omega⟩
 rw [hI,z4l,if_neg (by rw [h];decide)];simp [pre1,z1t]
theorem fields_fail {c:Nat} (hI:r=pre1 xs (z4l ws f j)) (hf:0 < f) (h:z2k (z0e ws j)=true) (he:rcon ws j=.error c):r=.error c:=by
 obtain ⟨f,rfl⟩:∃k,f=k+1:=⟨f - 1,by omega⟩
 rw [hI,z4l,if_pos h,z0j he];rfl
theorem fields_step {x:Bs×Nat} (hI:r=pre1 xs (z4l ws f j)) (hf:0 < f) (h:z2k (z0e ws j)=true) (he:rcon ws j=.ok x):r=pre1 (xs++[x.1]) (z4l ws (f - 1) x.2):=by
 obtain ⟨f,rfl⟩:∃k,f=k+1:=⟨f - 1,by omega⟩
 rw [hI,z4l,if_pos h,z0b he,y0a,Nat.add_sub_cancel]
end
section
variable {ws:List Bs} {ex:Nat→Rd Ex} {i:Nat}
theorem form_op (h:isOpB (z0e ws i)=true):z1z ws ex i=z1t (twoP ex (i+1)) fun l j=>.ok (.mk 8 0 (z0e ws i) l [],j):=by rw [z1z,if_pos h]
theorem form_let (h:isOpB (z0e ws i)=false) (h2:z0e ws i=⟨#[108,101,116]⟩):z1z ws ex i=z1t (y0v ws (i+1)) fun x j=>z1t (twoP ex j) fun l j=>.ok (.mk 6 0 x l [],j):=by
 rw [z1z,if_neg (by rw [h];decide)];exact if_pos h2
theorem z3e (h:isOpB (z0e ws i)=false) (h2:¬z0e ws i=⟨#[108,101,116]⟩) (h3:z0e ws i=⟨#[99,97,115,101]⟩) :
  z1z ws ex i=z1t (ex (i+1)) fun a j=>z1t (armsP ws ex (ws.length+1) true j) fun l j=>.ok (.mk 7 0 sNo [a] l,j):=by
 rw [z1z,if_neg (by rw [h];decide)];exact (if_neg h2).trans (if_pos h3)
theorem form_con (h:isOpB (z0e ws i)=false) (h2:¬z0e ws i=⟨#[108,101,116]⟩) (h3:¬z0e ws i=⟨#[99,97,115,101]⟩) (h4:z2k (z0e ws i)=true) :
  z1z ws ex i=z1t (z6q ws ex (ws.length+1) 1 (i+1)) fun l j=>.ok (.mk 4 0 (z0e ws i) l [],j):=by
 rw [z1z,if_neg (by rw [h];decide)];exact (if_neg h2).trans ((if_neg h3).trans (if_pos h4))
theorem form_call (h:isOpB (z0e ws i)=false) (h2:¬z0e ws i=⟨#[108,101,116]⟩) (h3:¬z0e ws i=⟨#[99,97,115,101]⟩) (h4:z2k (z0e ws i)=false) :
  z1z ws ex i=z1t (y0v ws i) fun x j=>z1t (z6q ws ex (ws.length+1) 0 j) fun l j=>.ok (.mk 5 0 x l [],j):=by
 rw [z1z,if_neg (by rw [h];decide)];exact (if_neg h2).trans ((if_neg h3).trans (if_neg (by rw [h4];decide)))
theorem isOp_no {s:Bs} (h1:¬s=⟨#[43]⟩) (h2:¬s=⟨#[45]⟩) (h3:¬s=⟨#[42]⟩) (h4:¬s=⟨#[47]⟩) (h5:¬s=⟨#[37]⟩) (h6:¬s=⟨#[60]⟩) (h7:¬s=⟨#[61]⟩):isOpB s=false:=by
 simp [isOpB,h1,h2,h3,h4,h5,h6,h7]
theorem y0o {s:Bs} (h:s=⟨#[43]⟩∨s=⟨#[45]⟩∨s=⟨#[42]⟩∨s=⟨#[47]⟩∨s=⟨#[37]⟩∨s=⟨#[60]⟩∨s=⟨#[61]⟩):isOpB s=true:=by
 rcases h with h | h | h | h | h | h | h <;> subst h <;> rfl
end
theorem RArm.of {Φ:Fz} {c:Bs} {v:Value} {b:List Value} {vs:List Bs} {e:Ex} (h:SliceOf RStr Φ 1 v vs) (hb:REx Φ b e):RArm Φ (.string c::v::b) (.mk c vs e):=RArm.iff.2 ⟨_,_,rfl,h,hb⟩
theorem peek_eq_lt {ws:List Bs} {i:Nat} {s:Bs} (h:z0e ws i=s) (hs:s≠⟨#[]⟩):i < ws.length:=z6g fun e=>hs (h.symm.trans e)
theorem isOp_lt {ws:List Bs} {i:Nat} (h:isOpB (z0e ws i)=true):i < ws.length:=z6g fun e=>by rw [e] at h;revert h;decide
theorem isCon_lt {ws:List Bs} {i:Nat} (h:z2k (z0e ws i)=true):i < ws.length:=z6g fun e=>by rw [e] at h;revert h;decide
theorem two_le {ws:List Bs} {d i:Nat} {x:List Ex×Nat} (h:twoP (z0q ws d) i=.ok x):i < x.2∧x.2≤ws.length:=two_goes (z3n d) i x h
theorem list_le {ws:List Bs} {d i f m:Nat} {x:List Ex×Nat} (hi:i≤ws.length) (h:z6q ws (z0q ws d) f m i=.ok x):i≤x.2∧x.2≤ws.length:=list_stays (z3n d) f m i x hi h
theorem form_le {ws:List Bs} {d i:Nat} {x:Ex×Nat} (h:z1z ws (z0q ws d) i=.ok x):i < x.2∧x.2≤ws.length:=form_goes (z3n d) i x h
section
variable {ws:List Bs} {f j:Nat} {xs:List Con} {r:Rd (List Con)} {n:Bs×Nat} {l:List Bs} {k c:Nat}
theorem cons_fail1 (hI:r=pre1 xs (consP ws f j)) (hf:0 < f) (he:rcon ws j=.error c):r=.error c:=by
 obtain ⟨f,rfl⟩:∃k,f=k+1:=⟨f - 1,by omega⟩
 rw [hI,consP,z0j he];rfl
theorem cons_fail2 (hI:r=pre1 xs (consP ws f j)) (hf:0 < f) (h1:rcon ws j=.ok n) (he:z4l ws (ws.length+1) n.2=.error c):r=.error c:=by
 obtain ⟨f,rfl⟩:∃k,f=k+1:=⟨f - 1,by omega⟩
 rw [hI,consP,z0b h1,z0j he];rfl
theorem cons_fin (hI:r=pre1 xs (consP ws f j)) (hf:0 < f) (h1:rcon ws j=.ok n) (h2:z4l ws (ws.length+1) n.2=.ok (l,k)) (hb:¬z0e ws k=⟨#[124]⟩):r=.ok (xs++[⟨n.1,l⟩],k):=by
 obtain ⟨f,rfl⟩:∃k,f=k+1:=⟨f - 1,by omega⟩
 rw [hI,consP,z0b h1,z0b h2,if_pos (show z0e ws k≠sBar from hb)];rfl
theorem cons_step (hI:r=pre1 xs (consP ws f j)) (hf:0 < f) (h1:rcon ws j=.ok n) (h2:z4l ws (ws.length+1) n.2=.ok (l,k)) (hb:z0e ws k=⟨#[124]⟩):r=pre1 (xs++[⟨n.1,l⟩]) (consP ws (f - 1) (k+1)):=by
 obtain ⟨f,rfl⟩:∃k,f=k+1:=⟨f - 1,by omega⟩
 rw [hI,consP,z0b h1,z0b h2,if_neg (show ¬z0e ws k≠sBar from fun h=>h hb),y0a,Nat.add_sub_cancel]
end
section
variable {ws:List Bs} {f j:Nat} {xs:List Param} {r:Rd (List Param)} {p:Param×Nat} {y:Unit×Nat} {c:Nat}
theorem params_fin (hI:r=pre1 xs (z5g ws f j)) (hf:0 < f) (h:¬z0e ws j=⟨#[40]⟩):r=.ok (xs,j):=by
 obtain ⟨f,rfl⟩:∃k,f=k+1:=⟨f - 1,by omega⟩
 rw [hI,z5g,if_neg (show ¬z0e ws j=sOpn from h)];simp [pre1,z1t]
theorem params_fail1 (hI:r=pre1 xs (z5g ws f j)) (hf:0 < f) (h:z0e ws j=⟨#[40]⟩) (he:z6f ws (j+1)=.error c):r=.error c:=by
 obtain ⟨f,rfl⟩:∃k,f=k+1:=⟨f - 1,by omega⟩
 rw [hI,z5g,if_pos (show z0e ws j=sOpn from h),z0j he];rfl
theorem params_fail2 (hI:r=pre1 xs (z5g ws f j)) (hf:0 < f) (h:z0e ws j=⟨#[40]⟩) (h1:z6f ws (j+1)=.ok p) (he:z7a ws ⟨#[41]⟩ p.2=.error c):r=.error c:=by
 obtain ⟨f,rfl⟩:∃k,f=k+1:=⟨f - 1,by omega⟩
 rw [hI,z5g,if_pos (show z0e ws j=sOpn from h),z0b h1,z0j (show z7a ws sCls p.2=_ from he)];rfl
theorem params_step (hI:r=pre1 xs (z5g ws f j)) (hf:0 < f) (h:z0e ws j=⟨#[40]⟩) (h1:z6f ws (j+1)=.ok p) (h2:z7a ws ⟨#[41]⟩ p.2=.ok y):r=pre1 (xs++[p.1]) (z5g ws (f - 1) y.2):=by
 obtain ⟨f,rfl⟩:∃k,f=k+1:=⟨f - 1,by omega⟩
 rw [hI,z5g,if_pos (show z0e ws j=sOpn from h),z0b h1,z0b (show z7a ws sCls p.2=_ from h2),y0a,Nat.add_sub_cancel]
end
theorem param_le {ws:List Bs} {i:Nat} {x:Param×Nat} (h:z6f ws i=.ok x):i < x.2∧x.2≤ws.length:=param_goes i x h
theorem data_le {ws:List Bs} {i:Nat} {x:Data×Nat} (h:dataP ws i=.ok x):i < x.2∧x.2≤ws.length:=data_goes i x h
theorem fun_le {ws:List Bs} {i:Nat} {x:Fun×Nat} (h:funP ws i=.ok x):i < x.2∧x.2≤ws.length:=fun_goes i x h
end Go.Sw

namespace Go.Sw
open Go.Proofs
def seqR:Code→Code
 | .seq _ y=>y
 | c=>c
section
variable {ws:List Bs} {f j n:Nat} {c:Core}
theorem decls_end (h:¬j < ws.length) (hf:0 < f):z2n ws f c j=.ok c:=by
 obtain ⟨f,rfl⟩:∃k,f=k+1:=⟨f - 1,by omega⟩
 rw [z2n,if_neg h]
theorem decls_data {x:Data×Nat} (h:j < ws.length) (hf:0 < f) (hk:z0e ws j=⟨#[100,97,116,97]⟩) (hx:dataP ws (j+1)=.ok x):z2n ws f c j=z2n ws (f - 1) { c with datas:=c.datas++[x.1] } x.2:=by
 obtain ⟨f,rfl⟩:∃k,f=k+1:=⟨f - 1,by omega⟩
 rw [z2n,if_pos h,if_pos (show z0e ws j=kData from hk),hx];rfl
theorem decls_dataE (h:j < ws.length) (hf:0 < f) (hk:z0e ws j=⟨#[100,97,116,97]⟩) (hx:dataP ws (j+1)=.error n):z2n ws f c j=.error n:=by
 obtain ⟨f,rfl⟩:∃k,f=k+1:=⟨f - 1,by omega⟩
 rw [z2n,if_pos h,if_pos (show z0e ws j=kData from hk),hx]
theorem decls_input {x:Param×Nat} (h:j < ws.length) (hf:0 < f) (h1:¬z0e ws j=⟨#[100,97,116,97]⟩) (hk:z0e ws j=⟨#[105,110,112,117,116]⟩) (hx:z6f ws (j+1)=.ok x):z2n ws f c j=z2n ws (f - 1) { c with inputs:=c.inputs++[x.1] } x.2:=by
 obtain ⟨f,rfl⟩:∃k,f=k+1:=⟨f - 1,by omega⟩
 rw [z2n,if_pos h,if_neg (show ¬z0e ws j=kData from h1),if_pos (show z0e ws j=kInput from hk),hx];rfl
theorem decls_inputE (h:j < ws.length) (hf:0 < f) (h1:¬z0e ws j=⟨#[100,97,116,97]⟩) (hk:z0e ws j=⟨#[105,110,112,117,116]⟩) (hx:z6f ws (j+1)=.error n):z2n ws f c j=.error n:=by
 obtain ⟨f,rfl⟩:∃k,f=k+1:=⟨f - 1,by omega⟩
 rw [z2n,if_pos h,if_neg (show ¬z0e ws j=kData from h1),if_pos (show z0e ws j=kInput from hk),hx]
theorem decls_fun {x:Fun×Nat} (h:j < ws.length) (hf:0 < f) (h1:¬z0e ws j=⟨#[100,97,116,97]⟩) (h2:¬z0e ws j=⟨#[105,110,112,117,116]⟩) (hk:z0e ws j=⟨#[102,117,110]⟩) (hx:funP ws (j+1)=.ok x):z2n ws f c j=z2n ws (f - 1) { c with funs:=c.funs++[x.1] } x.2:=by
 obtain ⟨f,rfl⟩:∃k,f=k+1:=⟨f - 1,by omega⟩
 rw [z2n,if_pos h,if_neg (show ¬z0e ws j=kData from h1),if_neg (show ¬z0e ws j=kInput from h2),if_pos (show z0e ws j=kFun from hk),hx];rfl
theorem decls_funE (h:j < ws.length) (hf:0 < f) (h1:¬z0e ws j=⟨#[100,97,116,97]⟩) (h2:¬z0e ws j=⟨#[105,110,112,117,116]⟩) (hk:z0e ws j=⟨#[102,117,110]⟩) (hx:funP ws (j+1)=.error n):z2n ws f c j=.error n:=by
 obtain ⟨f,rfl⟩:∃k,f=k+1:=⟨f - 1,by omega⟩
 rw [z2n,if_pos h,if_neg (show ¬z0e ws j=kData from h1),if_neg (show ¬z0e ws j=kInput from h2),if_pos (show z0e ws j=kFun from hk),hx]
theorem decls_out {x:Bs×Nat} (h:j < ws.length) (hf:0 < f) (h1:¬z0e ws j=⟨#[100,97,116,97]⟩) (h2:¬z0e ws j=⟨#[105,110,112,117,116]⟩) (h3:¬z0e ws j=⟨#[102,117,110]⟩) (hk:z0e ws j=⟨#[111,117,116,112,117,116]⟩) (hx:y0v ws (j+1)=.ok x):z2n ws f c j=z2n ws (f - 1) { c with outputs:=c.outputs++[x.1] } x.2:=by
 obtain ⟨f,rfl⟩:∃k,f=k+1:=⟨f - 1,by omega⟩
 rw [z2n,if_pos h,if_neg (show ¬z0e ws j=kData from h1),if_neg (show ¬z0e ws j=kInput from h2),if_neg (show ¬z0e ws j=kFun from h3),if_pos (show z0e ws j=kOutput from hk),hx];rfl
theorem decls_outE (h:j < ws.length) (hf:0 < f) (h1:¬z0e ws j=⟨#[100,97,116,97]⟩) (h2:¬z0e ws j=⟨#[105,110,112,117,116]⟩) (h3:¬z0e ws j=⟨#[102,117,110]⟩) (hk:z0e ws j=⟨#[111,117,116,112,117,116]⟩) (hx:y0v ws (j+1)=.error n):z2n ws f c j=.error n:=by
 obtain ⟨f,rfl⟩:∃k,f=k+1:=⟨f - 1,by omega⟩
 rw [z2n,if_pos h,if_neg (show ¬z0e ws j=kData from h1),if_neg (show ¬z0e ws j=kInput from h2),if_neg (show ¬z0e ws j=kFun from h3),if_pos (show z0e ws j=kOutput from hk),hx]
theorem decls_bad (h:j < ws.length) (hf:0 < f) (h1:¬z0e ws j=⟨#[100,97,116,97]⟩) (h2:¬z0e ws j=⟨#[105,110,112,117,116]⟩) (h3:¬z0e ws j=⟨#[102,117,110]⟩) (h4:¬z0e ws j=⟨#[111,117,116,112,117,116]⟩):z2n ws f c j=.error (j+1):=by
 obtain ⟨f,rfl⟩:∃k,f=k+1:=⟨f - 1,by omega⟩
 rw [z2n,if_pos h,if_neg (show ¬z0e ws j=kData from h1),if_neg (show ¬z0e ws j=kInput from h2),if_neg (show ¬z0e ws j=kFun from h3),if_neg (show ¬z0e ws j=kOutput from h4)]
end
end Go.Sw

namespace Go.Sw
section
variable {P:Program} {ops:Array Oper} {md:Region.Mode} {B:World→Prop} {kd:List Nat} {Qp:List PanicEntry→World→Prop} {D:List Deferred}
theorem wpAny_of_drI {Inv:Act→Prop} (hI:∀(i:Nat) (o:Oper) (a:Act) (v:Value),ops[i]? = some o→Inv a→Inv (a.put o.dst v)) {Q:Act→World→Prop} {Q':Exit→Act→World→Prop} (hQ:∀a w,Q a w→Q' .normal a w) (hp:∀c a w,Inv a→Qp c w→Q' (.panic c) a w) :
  ∀(n:Nat) (listed:Array Bool) (a:Act) (w:World),Inv a→((List.range ops.size).any (fun i=>z1p kd i==2 && !listed.getD i true)=true→B w) →
   wpDr P md ops B kd Qp Q n listed a w→wpAny P md ops Q' n listed a w:=by
 intro n
 induction n with
 | zero=>intro listed a w _ _ h;exact ⟨h.1,hQ _ _ h.2⟩
 | succ n ih =>
  intro listed a w hd hB h
  refine ⟨fun h0=>hQ _ _ (h.1 h0),fun i hi =>?_⟩
  have hi':=mem_ready.1 hi
  have hsub:((List.range ops.size).any (fun k=>z1p kd k==2 && !(listed.setIfInBounds i true).getD k true)=true→B w):=fun hx=>by
   apply hB
   rw [List.any_eq_true] at hx ⊢
   obtain ⟨k,hk1,hk2⟩:=hx
   simp only [Bool.and_eq_true,beq_iff_eq,Bool.not_eq_true'] at hk2
   refine ⟨k,hk1,?_⟩
   simp only [Bool.and_eq_true,beq_iff_eq,Bool.not_eq_true']
   refine ⟨hk2.1,?_⟩
   by_cases hki:i=k
   ·subst hki;exact hi'.1
   ·rw [getD_set_ne true hki] at hk2;exact hk2.2
  have h1:=h.2 i hi
  unfold drOp at h1
  unfold wpOp
  cases ho:ops[i]? with
  | none=>simp only [ho] at h1 ⊢;exact ih _ _ _ hd hsub h1
  | some o =>
   simp only [ho] at h1 ⊢
   by_cases hw:Region.wanted o (yielded ops a.tmps)=true
   ·rw [if_pos hw] at h1 ⊢
    refine .inl (z8r ?_)
    by_cases hk:z1p kd i=0
    ·rw [if_pos hk] at h1
     refine z1b h1 (fun v w' hv=>ih _ _ _ (hI _ _ _ _ ho hd) (fun hx=>hv.1 ?_) hv.2) (fun c w' hc=>hp c a w' hd hc)
     rw [List.any_eq_true] at hx
     obtain ⟨k,hk1,hk2⟩:=hx
     simp only [Bool.and_eq_true,beq_iff_eq,Bool.not_eq_true'] at hk2
     unfold leans
     rw [List.any_eq_true]
     have hlt:k < kd.length:=by
      by_cases hlt:k < kd.length
      ·exact hlt
      ·have:=hk2.1
       simp [z1p,List.getD_eq_getElem?_getD,List.getElem?_eq_none (Nat.le_of_not_lt hlt)] at this
     refine ⟨k,List.mem_range.2 hlt,?_⟩
     simp only [Bool.and_eq_true,beq_iff_eq,Bool.not_eq_true']
     refine ⟨hk2.1,?_⟩
     rw [← Bool.not_eq_true]
     intro hx
     obtain ⟨e,he,hb⟩:=Array.any_eq_true'.1 hx
     simp only [Bool.and_eq_true,beq_iff_eq] at hb
     obtain ⟨_,o',ho',hall⟩:=hi'
     rw [ho] at ho'
     cases ho'
     have hl:=hall e he hb.1
     rw [hb.2] at hl
     have hk3:=hk2.2
     by_cases hki:i=k
     ·subst hki
      have:=(mem_ready.1 hi).1
      rcases Nat.lt_or_ge i listed.size with h' | h'
      ·simp [h'] at hl this;rw [hl] at this;cases this
      ·simp [Array.getElem?_eq_none h'] at hl
     ·rw [getD_set_ne true hki] at hk3
      rcases Nat.lt_or_ge k listed.size with h' | h'
      ·simp [h'] at hl hk3;rw [hl] at hk3;cases hk3
      ·simp [Array.getElem?_eq_none h'] at hl
    ·rw [if_neg hk] at h1
     obtain ⟨v,h2,h3⟩:=h1
     have hr:=h2 w (fun e=>hB (by
      rw [List.any_eq_true]
      refine ⟨i,List.mem_range.2 (Array.getElem?_eq_some_iff.1 ho).1,?_⟩
      simp only [Bool.and_eq_true,beq_iff_eq,Bool.not_eq_true']
      exact ⟨e,hi'.1⟩))
     unfold Oper.eff
     rw [hr]
     exact ih _ _ _ (hI _ _ _ _ ho hd) hsub h3
   ·rw [if_neg hw] at h1 ⊢
    exact ih _ _ _ (hI _ _ _ _ ho hd) hsub h1
theorem wpAnyIn_of_drI {r:Option Nat} {m:Nat} (hnd:∀(i:Nat) (o:Oper),ops[i]? = some o→∀c,o.op≠.defer c) {Inv:Act→Prop} (hI:∀(i:Nat) (o:Oper) (a:Act) (v:Value),ops[i]? = some o→Inv a→Inv (a.put o.dst v)) {Q:Act→World→Prop} {Q':Exit→Act→World→Prop} (hQ:∀a w,Q a w→Q' .normal a w) (hp:∀c a w,Inv a→Qp c w→Q' (.panic c) a w) :
  ∀(n:Nat) (listed:Array Bool) (a:Act) (w:World),Inv a→((List.range ops.size).any (fun i=>z1p kd i==2 && !listed.getD i true)=true→B w) →
   wpDr P md ops B kd Qp Q n listed a w→wpAnyIn (FO r) m P md ops Q' n listed a w:=by
 intro n
 induction n with
 | zero=>intro listed a w _ _ h;exact ⟨h.1,hQ _ _ h.2⟩
 | succ n ih =>
  intro listed a w hd hB h
  refine ⟨fun h0=>hQ _ _ (h.1 h0),fun i hi =>?_⟩
  have hi':=mem_ready.1 hi
  have hsub:((List.range ops.size).any (fun k=>z1p kd k==2 && !(listed.setIfInBounds i true).getD k true)=true→B w):=fun hx=>by
   apply hB
   rw [List.any_eq_true] at hx ⊢
   obtain ⟨k,hk1,hk2⟩:=hx
   simp only [Bool.and_eq_true,beq_iff_eq,Bool.not_eq_true'] at hk2
   refine ⟨k,hk1,?_⟩
   simp only [Bool.and_eq_true,beq_iff_eq,Bool.not_eq_true']
   refine ⟨hk2.1,?_⟩
   by_cases hki:i=k
   ·subst hki;exact hi'.1
   ·rw [getD_set_ne true hki] at hk2;exact hk2.2
  have h1:=h.2 i hi
  unfold drOp at h1
  unfold wpOpIn
  cases ho:ops[i]? with
  | none=>simp only [ho] at h1 ⊢;exact ih _ _ _ hd hsub h1
  | some o =>
   simp only [ho] at h1 ⊢
   by_cases hw:Region.wanted o (yielded ops a.tmps)=true
   ·rw [if_pos hw] at h1 ⊢
    refine wpIn_of_eff (hnd _ _ ho) ?_
    by_cases hk:z1p kd i=0
    ·rw [if_pos hk] at h1
     refine z1b h1 (fun v w' hv=>ih _ _ _ (hI _ _ _ _ ho hd) (fun hx=>hv.1 ?_) hv.2) (fun c w' hc=>hp c a w' hd hc)
     rw [List.any_eq_true] at hx
     obtain ⟨k,hk1,hk2⟩:=hx
     simp only [Bool.and_eq_true,beq_iff_eq,Bool.not_eq_true'] at hk2
     unfold leans
     rw [List.any_eq_true]
     have hlt:k < kd.length:=by
      by_cases hlt:k < kd.length
      ·exact hlt
      ·have:=hk2.1
       simp [z1p,List.getD_eq_getElem?_getD,List.getElem?_eq_none (Nat.le_of_not_lt hlt)] at this
     refine ⟨k,List.mem_range.2 hlt,?_⟩
     simp only [Bool.and_eq_true,beq_iff_eq,Bool.not_eq_true']
     refine ⟨hk2.1,?_⟩
     rw [← Bool.not_eq_true]
     intro hx
     obtain ⟨e,he,hb⟩:=Array.any_eq_true'.1 hx
     simp only [Bool.and_eq_true,beq_iff_eq] at hb
     obtain ⟨_,o',ho',hall⟩:=hi'
     rw [ho] at ho'
     cases ho'
     have hl:=hall e he hb.1
     rw [hb.2] at hl
     have hk3:=hk2.2
     by_cases hki:i=k
     ·subst hki
      have:=(mem_ready.1 hi).1
      rcases Nat.lt_or_ge i listed.size with h' | h'
      ·simp [h'] at hl this;rw [hl] at this;cases this
      ·simp [Array.getElem?_eq_none h'] at hl
     ·rw [getD_set_ne true hki] at hk3
      rcases Nat.lt_or_ge k listed.size with h' | h'
      ·simp [h'] at hl hk3;rw [hl] at hk3;cases hk3
      ·simp [Array.getElem?_eq_none h'] at hl
    ·rw [if_neg hk] at h1
     obtain ⟨v,h2,h3⟩:=h1
     have hr:=h2 w (fun e=>hB (by
      rw [List.any_eq_true]
      refine ⟨i,List.mem_range.2 (Array.getElem?_eq_some_iff.1 ho).1,?_⟩
      simp only [Bool.and_eq_true,beq_iff_eq,Bool.not_eq_true']
      exact ⟨e,hi'.1⟩))
     unfold Oper.eff
     rw [hr]
     exact ih _ _ _ (hI _ _ _ _ ho hd) hsub h3
   ·rw [if_neg hw] at h1 ⊢
    exact ⟨fun f _=>FO.fn f,ih _ _ _ (hI _ _ _ _ ho hd) hsub h1⟩
end
theorem EnvR.keep {n:Nat} {E0:List (Nat×Value)} {D:List Deferred} {a:Act} {o:Oper} {v:Value} (he:EnvR n E0 D a) (ho:(match o.dst with | some d=>(get E0 d).isNone | none=>true)=true):EnvR n E0 D (a.put o.dst v):=by
 cases hd:o.dst with
 | none=>exact he
 | some d =>
  rw [hd] at ho
  refine ⟨by simp [Act.put,he.size],fun t u h =>?_,he.defs⟩
  have:t≠d:=fun e=>by subst e;simp only [h] at ho;cases ho
  simp only [Act.put]
  rw [Array.getElem?_setIfInBounds_ne (Ne.symm this)]
  exact he.env t u h
theorem z9f {P:Program} {n:Nat} {E0:List (Nat×Value)} {D:List Deferred} {a:Act} {Φ:Fz} {K:List Res} {w:World} {id:Nat} {l:List Oper} {Q:Exit→Act→World→Prop} (kd:List Nat) (p:Plan) (K':List Res) (h0:EnvR n E0 D a) (hm:Mem Φ K w) (hw:P.follows .mixedOrders=true) (hB:planB l.toArray kd p=true) (hK:∀r∈K',r∈K)
  (ho:l.all (fun o=>match o.dst with | some d=>(get E0 d).isNone | none=>true)=true)
  (h:∀w,Mem Φ K w→z0x P .any l.toArray (Sees Φ K') kd (fun c w=>∀a,EnvR n E0 D a→Q (.panic c) a w) (Q .normal) p a w):(Code.region id l.toArray true).wp P Q a w:=by
 have hm':=hm.drew
 have h:=h _ hm'
 simp only [planB,Bool.and_eq_true,beq_iff_eq] at hB
 obtain ⟨⟨⟨hs,hev⟩,hl⟩,hok⟩:=hB
 refine wp_region_any hw (wpAny_of_drI (Inv:=EnvR n E0 D) (kd:=kd) (B:=Sees Φ K') (Qp:=fun c w=>∀a,EnvR n E0 D a→Q (.panic c) a w) (Q:=Q .normal) (fun i o a v hi he=>he.keep ?_) (fun _ _ h=>h) (fun c a w he h=>h a he) _ _ _ _ h0 (fun _=>⟨hm'.fz,fun r hr=>hm'.own r (hK r hr)⟩) ?_)
 ·have h1:l[i]? = some o:=by simpa using hi
  exact List.all_eq_true.1 ho o (List.mem_of_getElem? h1)
 ·have:=z3v hs p _ _ _ hev hok h
  rw [hl] at this
  exact this
theorem region_planIn {P:Program} {n m:Nat} {r:Option Nat} {E:List (Nat×Value)} {a:Act} {Φ:Fz} {K:List Res} {w:World} {id:Nat} {l:List Oper} {Q:Exit→Act→World→Prop} (kd:List Nat) (p:Plan) (K':List Res) (he:EnvR n E [] a) (hm:Mem Φ K w) (hw:P.follows .mixedOrders=true) (hB:planB l.toArray kd p=true) (hK:∀r∈K',r∈K)
  (ho:l.all (fun o=>match o.op with | .defer _=>false | _=>true)=true)
  (h:∀w,Mem Φ K w→z0x P .any l.toArray (Sees Φ K') kd (fun _ _=>False) (Q .normal) p a w):(Code.region id l.toArray true).wpIn (FO r) m P Q a w:=by
 have hm':=hm.drew
 have h:=h _ hm'
 simp only [planB,Bool.and_eq_true,beq_iff_eq] at hB
 obtain ⟨⟨⟨hs,hev⟩,hl⟩,hok⟩:=hB
 refine wpIn_region_any hw (wpAnyIn_of_drI (Inv:=fun _=>True) (kd:=kd) (B:=Sees Φ K') (Qp:=fun _ _=>False) (Q:=Q .normal) (fun i o hi c hc =>?_) (fun _ _ _ _ _ h=>h) (fun _ _ h=>h) (fun _ _ _ _ h=>h.elim) _ _ _ _ trivial (fun _=>⟨hm'.fz,fun r hr=>hm'.own r (hK r hr)⟩) ?_)
 ·have h1:l[i]? = some o:=by simpa using hi
  have h2:=List.all_eq_true.1 ho o (List.mem_of_getElem? h1)
  rw [hc] at h2;cases h2
 ·have:=z3v hs p _ _ _ hev hok h
  rw [hl] at this
  exact this
end Go.Sw

namespace Go.Sw
open Go.Proofs
theorem runB_all (p:Nat→Bool) (t:Bs):∀(f i j:Nat),j < runB p t f i→i+j < t.size∧p (z0m t (i+j))=true
 | 0,i,j,h=>by simp [runB] at h
 | f+1,i,j,h=>by
  simp only [runB] at h
  split at h
  ·rename_i h1
   cases j with
   | zero=>exact h1
   | succ j =>
    have:=runB_all p t f (i+1) j (by omega)
    rw [show i+(j+1)=i+1+j by omega];exact this
  ·omega
theorem runB_end (p:Nat→Bool) (t:Bs):∀(f i:Nat),t.size≤i+f→i+runB p t f i < t.size→p (z0m t (i+runB p t f i))=false
 | 0,i,h,h2=>by simp only [runB] at h2 ⊢;omega
 | f+1,i,h,h2=>by
  by_cases h1:i < t.size∧p (z0m t i)=true
  ·have e:runB p t (f+1) i=runB p t f (i+1)+1:=by simp only [runB];rw [if_pos h1]
   rw [e] at h2 ⊢
   have:=runB_end p t f (i+1) (by omega) (by omega)
   rw [show i+(runB p t f (i+1)+1)=i+1+runB p t f (i+1) by omega];exact this
  ·have e:runB p t (f+1) i=0:=by simp only [runB];rw [if_neg h1]
   rw [e] at h2 ⊢
   cases hp:p (z0m t (i+0)) with
   | false=>rfl
   | true=>exact absurd ⟨by omega,hp⟩ h1
theorem byte_eq (b k:UInt8):(b==k)=decide (b.toNat=k.toNat):=by
 rw [Bool.eq_iff_iff];simp [UInt8.toNat_inj]
theorem sep_contains (b:UInt8):([32,10,40,41]:List UInt8).contains b=sepB b.toNat:=by
 simp only [List.contains_cons,List.contains_nil,sepB,byte_eq,Bool.or_false]
 simp [Bool.or_assoc]
theorem ext_byte {t:Bs} {i j:Nat} (hi:i+j < t.size):(t.extract i t.size).data.toList[j]? = some t[i+j]:=by
 rw [Array.getElem?_toList]
 have h:=ByteArray.data_extract (a:=t) (b:=i) (e:=t.size)
 rw [h,Array.getElem?_extract]
 have:t.data.size=t.size:=rfl
 rw [if_pos (by omega),Array.getElem?_eq_getElem (by omega)]
 rfl
theorem byteAt_ix {t:Bs} {i:Nat} (h:i < t.size):z0m t i=t[i].toNat:=by simp [z0m,h]
theorem ext_none {t:Bs} {i:Nat} {x:UInt8} {j:Nat} (h:(t.extract i t.size).data.toList[j]? = some x):i+j < t.size:=by
 have h1:=(List.getElem?_eq_some_iff.1 h).1
 have h2:(t.extract i t.size).data.toList.length=(t.extract i t.size).size:=by rw [Array.length_toList];rfl
 have h3:=ByteArray.size_extract (a:=t) (b:=i) (e:=t.size)
 omega
theorem wordLen_le {t:Bs} {i:Nat} (h:i≤t.size):i+z1x t i≤t.size:=z5h _ t t.size i h
theorem any_words {t:Bs} {i:Nat} (hi:i≤t.size):Lib.indexAny (t.extract i t.size).data.toList [32,10,40,41]=if i+z1x t i < t.size then ((z1x t i:Nat):Int) else -1:=by
 have hN:∀n,n≤z1x t i→Lib.NoAny (t.extract i t.size).data.toList [32,10,40,41] n:=fun n hn j b hj hb=>by
  have h1:=ext_none hb
  rw [ext_byte h1] at hb
  simp only [Option.some.injEq] at hb
  have h2:=(runB_all (fun c => !sepB c) t t.size i j (by unfold z1x at hn;omega)).2
  rw [sep_contains,← hb,← byteAt_ix h1]
  simpa using h2
 split
 ·rename_i h
  have h2:=runB_end (fun c => !sepB c) t t.size i (by omega) h
  refine Lib.indexAny_hit (x:=t[i+z1x t i]) (hN _ (Nat.le_refl _)) (ext_byte h) ?_
  rw [sep_contains,← byteAt_ix h]
  simpa [z1x] using h2
 ·rename_i h
  refine Lib.indexAny_none ?_
  have h1:=wordLen_le hi
  have h2:(t.extract i t.size).data.toList.length=(t.extract i t.size).size:=by rw [Array.length_toList];rfl
  have h3:=ByteArray.size_extract (a:=t) (b:=i) (e:=t.size)
  exact hN _ (by omega)
def AscB (t:Bs):Prop:=∀(j:Nat) b,t.data.toList[j]? = some b→b.toNat < 128
theorem anyIx_ok {Φ:Fz} {K:List Res} {w:World} {t:Bs} {i:Nat} (ha:AscB t) (h2:t.size≤1000000) (hi:i≤t.size) (hm:Mem Φ K w) :
  Calls Tryz.prog 175 (List.toArray [.string (t.extract i t.size),.string ⟨#[32,10,40,41]⟩]) w (fun ee w'=>ee=.returned (.int .i64 (if i+z1x t i < t.size then ((z1x t i:Nat):Int) else -1))∧Mem Φ K w'):=by
 have h3:=ByteArray.size_extract (a:=t) (b:=i) (e:=t.size)
 refine (Tryz.strings_IndexAny_laid (t.extract i t.size) ⟨#[32,10,40,41]⟩ w (by omega) (by decide) (fun j b hb =>?_) (by
  intro j b hb
  have hl:(⟨#[32,10,40,41]⟩:ByteArray).data.toList=[32,10,40,41]:=rfl
  rw [hl] at hb
  have:=List.mem_of_getElem? hb
  simp only [List.mem_cons,List.not_mem_nil,or_false] at this
  rcases this with rfl | rfl | rfl | rfl <;> decide)).mono fun e w' he =>?_
 ·have h1:=ext_none hb
  rw [ext_byte h1] at hb
  refine ha (i+j) b ?_
  rw [← hb,Array.getElem?_toList]
  exact Array.getElem?_eq_getElem h1
 ·obtain ⟨rfl,hb⟩:=he
  refine ⟨?_,hm.below hb⟩
  rw [← any_words hi]
theorem word_neg {t:Bs} {i:Nat} (hi:i≤t.size) (h:(if i+z1x t i < t.size then ((z1x t i:Nat):Int) else -1) < 0):i+z1x t i=t.size:=by
 have:=wordLen_le hi
 split at h <;> omega
theorem word_pos {t:Bs} {i:Nat} (h:¬(if i+z1x t i < t.size then ((z1x t i:Nat):Int) else -1) < 0):(if i+z1x t i < t.size then ((z1x t i:Nat):Int) else -1)=((z1x t i:Nat):Int):=by
 split at h
 ·rename_i h1;rw [if_pos h1]
 ·omega
theorem words_end {t:Bs} {f i:Nat} (h:¬i < t.size):z5o t f i=[]:=by cases f with
 | zero=>rfl
 | succ f=>rw [z5o,if_neg h]
theorem words_sp {t:Bs} {f i:Nat} (h:i < t.size) (hf:t.size≤i+f) (hb:z0m t i=32∨z0m t i=10):z5o t f i=z5o t (f - 1) (i+1):=by
 obtain ⟨f,rfl⟩:∃k,f=k+1:=⟨f - 1,by omega⟩
 rw [z5o,if_pos h,if_pos hb];rfl
theorem words_par {t:Bs} {f i:Nat} (h:i < t.size) (hf:t.size≤i+f) (hn:¬(z0m t i=32∨z0m t i=10)) (hb:z0m t i=40∨z0m t i=41):z5o t f i=t.extract i (i+1)::z5o t (f - 1) (i+1):=by
 obtain ⟨f,rfl⟩:∃k,f=k+1:=⟨f - 1,by omega⟩
 rw [z5o,if_pos h,if_neg hn,if_pos hb];rfl
theorem words_word {t:Bs} {f i:Nat} (h:i < t.size) (hf:t.size≤i+f) (hn:¬(z0m t i=32∨z0m t i=10)) (hb:¬(z0m t i=40∨z0m t i=41)):z5o t f i=t.extract i (i+z1x t i)::z5o t (f - 1) (i+z1x t i):=by
 obtain ⟨f,rfl⟩:∃k,f=k+1:=⟨f - 1,by omega⟩
 rw [z5o,if_pos h,if_neg hn,if_neg hb];rfl
theorem wordLen_pos {t:Bs} {i:Nat} (h:i < t.size) (hn:¬(z0m t i=32∨z0m t i=10)) (hb:¬(z0m t i=40∨z0m t i=41)):0 < z1x t i:=by
 unfold z1x
 rw [runB_step,if_pos]
 ·omega
 ·refine ⟨h,?_⟩
  simp only [sepB]
  simp only [not_or] at hn hb
  simp [hn.1,hn.2,hb.1,hb.2]
theorem y0y {t:Bs}:∀f i s,s∈z5o t f i→s.size≤t.size
 | 0,i,s,h=>by cases h
 | f+1,i,s,h=>by
  have hx:∀a b,(t.extract a b).size≤t.size:=fun a b=>by have:=ByteArray.size_extract (a:=t) (b:=a) (e:=b);omega
  simp only [z5o] at h
  split at h
  ·split at h
   ·exact y0y f _ s h
   ·split at h
    ·rcases List.mem_cons.1 h with rfl | h
     ·exact hx _ _
     ·exact y0y f _ s h
    ·rcases List.mem_cons.1 h with rfl | h
     ·exact hx _ _
     ·exact y0y f _ s h
  ·cases h
theorem y0x {t:Bs}:∀f i,(z5o t f i).length≤f
 | 0,i=>by simp [z5o]
 | f+1,i=>by
  simp only [z5o]
  split
  ·split
   ·exact Nat.le_succ_of_le (y0x f _)
   ·split
    ·simpa using y0x f _
    ·simpa using y0x f _
  ·simp
theorem peek_size {ws:List Bs} {n:Nat} (h:∀s∈ws,s.size≤n) (j:Nat):(z0e ws j).size≤n:=by
 unfold z0e
 rw [List.getD_eq_getElem?_getD]
 cases hj:ws[j]? with
 | none=>exact Nat.zero_le _
 | some x=>exact h _ (List.mem_of_getElem? hj)
end Go.Sw

namespace Go.Sw
open Go.Proofs.Tryz
open Go.Proofs
set_option maxRecDepth 20000
set_option maxHeartbeats 4000000
variable {Φ:Fz} {K:List Res} {w:World}
theorem z6h {r i:Nat} {rs:Value} {ws:List Bs} (rl:SliceOf RStr Φ 1 rs ws) (hws:ws.length≤1000000) (hi:i≤ws.length) (hm:Mem Φ (.blk r (ob [rs,.int .i64 ((i:Nat):Int)] 208)::K) w) :
  Calls Tryz.prog 179 (List.toArray [.pointer (some ⟨r,0,none⟩)]) w (fun ee w'=>ee=.returned (.string (z0e ws i))∧Mem Φ (.blk r (ob [rs,.int .i64 ((i:Nat):Int)] 208)::K) w'):=by
 obtain ⟨pw,cw,rfl,hmw,hnw⟩:=rl.fm
 refine z0l func179 ntmps179 fun Q hQ a he =>?_
 refine Reg [1,1,1,2,1,1,1,2,1,1] [0] he hm fun w hm a he =>?_
 refine go he hm fun a he =>?_
 by_cases h4:i < ws.length
 refine Reg [1,1,1,2,1,1,1,2,1,2,1] [0] he hm fun w hm a he =>?_
 refine go he hm fun a he =>?_
 obtain ⟨q6,rfl,x7,hx8,cs9,hl10,ha11,hr12⟩:=rl.el hnw h4
 obtain rfl:cs9=[.string x7]:=hr12
 refine Ret1 hQ he hm ?_
 rw [z2t hx8];exact ⟨rfl,hm⟩
 refine Ret1 hQ he hm ?_
 rw [peek_end h4];exact ⟨rfl,hm⟩
theorem rfail_ok {r i:Nat} {rs:Value} {ws:List Bs} (rl:SliceOf RStr Φ 1 rs ws) (hws:ws.length≤1000000) (hi:i≤ws.length) (hm:Mem Φ (.blk r (ob [rs,.int .i64 ((i:Nat):Int)] 208)::K) w) :
  Calls Tryz.prog 130 (List.toArray [.pointer (some ⟨r,0,none⟩)]) w (fun ee w'=>ee=.panicked (z8s (i+1))∧Mem Φ K w'):=by
 obtain ⟨pw,cw,rfl,hmw,hnw⟩:=rl.fm
 refine z0l func130 ntmps130 fun Q hQ a he =>?_
 refine z1h he hm fun a he =>?_
 refine Qq he hm (fun a he =>?_) (o:=by exact fun _ _ _ he hs=>z1e he rfl runUnderlying204 (by intro ms h;cases h))
 refine st0 he rfl rfl (z3m he rfl (z3p _) (fun a hd=>hQ _ _ _ (z0z hd ?_)))
 replace hm:=hm.dl [0]
 exact ⟨rfl,hm⟩
theorem rtake_ok {r i:Nat} {rs:Value} {ws:List Bs} {g:Nat} {fs cs:List Value} {p:Bs→Bool} (hg:∀args w,(callFunc g args).run Tryz.prog w=.ok (.enter g args) w)
  (hf:∀{w:World} (s:Bs),Mem Φ (.blk r (ob [rs,.int .i64 ((i:Nat):Int)] 208)::K) w→Calls Tryz.prog g (fs++[Value.string s]++cs).toArray w (fun ee w'=>ee=.returned (.bool (p s))∧Mem Φ (.blk r (ob [rs,.int .i64 ((i:Nat):Int)] 208)::K) w')) (rl:SliceOf RStr Φ 1 rs ws) (hws:ws.length≤1000000) (hi:i≤ws.length) (hm:Mem Φ (.blk r (ob [rs,.int .i64 ((i:Nat):Int)] 208)::K) w) :
  Calls Tryz.prog 181 (List.toArray [.pointer (some ⟨r,0,none⟩),.func (.func g) fs.toArray cs.toArray]) w (fun ee w'=>Out (z9l ws p i) (fun x=>ee=.returned (.string x.1)∧Mem Φ (.blk r (ob [rs,.int .i64 ((x.2:Nat):Int)] 208)::K) w') (fun c=>ee=.panicked (z8s c)∧Mem Φ K w')):=by
 obtain ⟨pw,cw,rfl,hmw,hnw⟩:=rl.fm
 refine z0l func181 ntmps181 fun Q hQ a he =>?_
 refine z0y call179 he hm (fun w hm a he =>?_) (c:=z6h (i:=i) rl hws (by omega) hm)
 refine go he hm fun a he =>?_
 by_cases h5:(z0e ws i)=(⟨#[]⟩:ByteArray)
 refine go he hm fun a he =>?_
 refine st he rfl rfl rfl (z9r he rfl call130 (rfail_ok (i:=i) rl hws (by omega) hm) (fun w hm=>fun a hd=>hQ _ _ _ (z0z hd ?_)))
 show Out (z9l ws p i) _ _
 rw [takeP_no h5];exact ⟨rfl,hm⟩
 refine FunB hg he hm (fun hB6 w hm a he =>?_) (fun hB6 w hm a he =>?_) (c:=by exact hf _ hm)
 refine go he hm fun a he =>?_
 have hlt_:=z6g h5
 refine Sto 0 he hm fun w hm a he =>?_
 refine Ret1 hQ he hm ?_
 show Out (z9l ws p i) _ _
 rw [takeP_ok h5 hB6];exact ⟨rfl,hm⟩
 refine go he hm fun a he =>?_
 refine st he rfl rfl rfl (z9r he rfl call130 (rfail_ok (i:=i) rl hws (by omega) hm) (fun w hm=>fun a hd=>hQ _ _ _ (z0z hd ?_)))
 show Out (z9l ws p i) _ _
 rw [takeP_bad hB6];exact ⟨rfl,hm⟩
theorem next1_ok {b:Nat} {s x:Bs} (hm:Mem Φ (.blk b (ob [.string x] 9)::K) w) :
  Calls Tryz.prog 204 (List.toArray [.string s,.pointer (some ⟨b,0,none⟩)]) w (fun ee w'=>ee=.returned (.bool (decide (s=x)))∧Mem Φ (.blk b (ob [.string x] 9)::K) w'):=by
 refine z0l func204 ntmps204 fun Q hQ a he =>?_
 refine Qq he hm (fun a he =>?_) (o:=by exact fun _ _ _ he hs=>y_seqlD he rfl rfl)
 refine Ret1 hQ he hm ?_
 exact ⟨rfl,hm⟩
theorem z5r {r i:Nat} {rs:Value} {ws:List Bs} {x:Bs} (rl:SliceOf RStr Φ 1 rs ws) (hws:ws.length≤1000000) (hi:i≤ws.length) (hm:Mem Φ (.blk r (ob [rs,.int .i64 ((i:Nat):Int)] 208)::K) w) :
  Calls Tryz.prog 177 (List.toArray [.pointer (some ⟨r,0,none⟩),.string x]) w (fun ee w'=>Out (z7a ws x i) (fun x=>ee=.returned (.tuple #[])∧Mem Φ (.blk r (ob [rs,.int .i64 ((x.2:Nat):Int)] 208)::K) w') (fun c=>ee=.panicked (z8s c)∧Mem Φ K w')):=by
 obtain ⟨pw,cw,rfl,hmw,hnw⟩:=rl.fm
 refine z0l func177 ntmps177 fun Q hQ a he =>?_
 refine Bx he hm fun b2 w hm a he =>?_
 replace hm:=hm.ar [] [1,1,1]
 refine z3b hQ call181 he hm (fun q3 w hq4 hm a he =>?_) (fun q3 w hq4 hm =>?_) (c:=rtake_ok (p:=fun s=>decide (s=x)) (fs:=[]) (cs:=[.pointer (some ⟨b2,0,none⟩)]) call204 (fun s hm=>(next1_ok (hm.pull (i:=1) rfl)).mono fun _ _ h=>⟨h.1,h.2.pull (i:=1) rfl⟩) (i:=i) rl hws (by omega) hm)
 have hleq3:=z2q hq4
 refine go he hm fun a he =>?_
 replace hm:=hm.dl [1]
 refine hQ _ _ _ (ret0N he results177 ?_)
 show Out (z7a ws x i) _ _
 rw [nextP_ok hq4];exact ⟨rfl,hm⟩
 replace hm:=hm.dl [0]
 show Out (z7a ws x i) _ _
 rw [nextP_err hq4];exact ⟨rfl,hm⟩
theorem rcon_ok {r i:Nat} {rs:Value} {ws:List Bs} (G:Glob Φ) (rl:SliceOf RStr Φ 1 rs ws) (hws:ws.length≤1000000) (hi:i≤ws.length) (hm:Mem Φ (.blk r (ob [rs,.int .i64 ((i:Nat):Int)] 208)::K) w) :
  Calls Tryz.prog 176 (List.toArray [.pointer (some ⟨r,0,none⟩)]) w (fun ee w'=>Out (rcon ws i) (fun x=>ee=.returned (.string x.1)∧Mem Φ (.blk r (ob [rs,.int .i64 ((x.2:Nat):Int)] 208)::K) w') (fun c=>ee=.panicked (z8s c)∧Mem Φ K w')):=by
 obtain ⟨pw,cw,rfl,hmw,hnw⟩:=rl.fm
 refine z0l func176 ntmps176 fun Q hQ a he =>?_
 refine z3b hQ call181 he hm (fun q3 w hq4 hm a he =>?_) (fun q3 w hq4 hm =>?_) (c:=rtake_ok (p:=z2k) (fs:=[]) (cs:=[]) call178 (fun s hm=>z6d G hm) (i:=i) rl hws (by omega) hm)
 have hleq3:=z2q hq4
 refine Ret1 hQ he hm ?_
 show Out (rcon ws i) _ _
 rw [show rcon ws i=.ok q3 from hq4];exact ⟨rfl,hm⟩
 show Out (rcon ws i) _ _
 rw [show rcon ws i=_ from hq4];exact ⟨rfl,hm⟩
theorem z7p {r i:Nat} {rs:Value} {ws:List Bs} (G:Glob Φ) (rl:SliceOf RStr Φ 1 rs ws) (hws:ws.length≤1000000) (hi:i≤ws.length) (hm:Mem Φ (.blk r (ob [rs,.int .i64 ((i:Nat):Int)] 208)::K) w) :
  Calls Tryz.prog 129 (List.toArray [.pointer (some ⟨r,0,none⟩)]) w (fun ee w'=>Out (y0v ws i) (fun x=>ee=.returned (.string x.1)∧Mem Φ (.blk r (ob [rs,.int .i64 ((x.2:Nat):Int)] 208)::K) w') (fun c=>ee=.panicked (z8s c)∧Mem Φ K w')):=by
 obtain ⟨pw,cw,rfl,hmw,hnw⟩:=rl.fm
 refine z0l func129 ntmps129 fun Q hQ a he =>?_
 refine z3b hQ call181 he hm (fun q3 w hq4 hm a he =>?_) (fun q3 w hq4 hm =>?_) (c:=rtake_ok (p:=z1s) (fs:=[]) (cs:=[]) call138 (fun s hm=>isName_ok G hm) (i:=i) rl hws (by omega) hm)
 have hleq3:=z2q hq4
 refine Ret1 hQ he hm ?_
 show Out (y0v ws i) _ _
 rw [show y0v ws i=.ok q3 from hq4];exact ⟨rfl,hm⟩
 show Out (y0v ws i) _ _
 rw [show y0v ws i=_ from hq4];exact ⟨rfl,hm⟩
theorem integer_ok {s:Bs} (hs:s.size≤1000000) (G:Glob Φ) (hm:Mem Φ K w) :
  Calls Tryz.prog 205 (List.toArray [.string s]) w (fun ee w'=>∃y:Int,ee=.returned (.tuple (List.toArray [.int .i64 y,.bool (intP s).isSome]))∧(∀v,intP s=some v→y=v)∧Mem Φ K w'):=by
 refine z0l func205 ntmps205 fun Q hQ a he =>?_
 refine go he hm fun a he =>?_
 refine st he rfl rfl rfl (eff_callV he rfl call217 (atoi_ok (by exact hs) G hm) (fun q3 w hq5 hm a he =>?_) (fun q3 y4 w hq5 hm a he =>?_))
 replace hm:=hm.nf
 refine Qq he hm (fun a he =>?_) (o:=by exact fun _ _ _ he hs=>y0z (v:=.bool true) he rfl rfl rfl (by kernel_rfl))
 refine z0y call122 he hm (fun w hm a he =>?_) (c:=itoa_ok (atoi_i64 hq5) G.tabs hm)
 refine Qq he hm (fun a he =>?_) (o:=by exact fun _ _ _ he hs=>y_seqlD he rfl rfl)
 refine Ret2 hQ he hm ?_
 by_cases hd_:itoaP q3=s
 rw [intP_some hq5 hd_,decide_eq_true hd_];exact ⟨_,rfl,(fun v h=>by injection h),hm⟩
 rw [intP_ne hq5 hd_,decide_eq_false hd_];exact ⟨_,rfl,(fun v h=>by cases h),hm⟩
 replace hm:=hm.nf
 refine Qq he hm (fun a he =>?_) (o:=by exact fun _ _ _ he hs=>y0z (v:=.bool false) he rfl rfl rfl (by kernel_rfl))
 refine Ret2 hQ he hm ?_
 rw [intP_err hq5];exact ⟨_,rfl,(fun v h=>by cases h),hm⟩
end Go.Sw

namespace Go.Sw
open Go.Proofs.Tryz
open Go.Proofs
set_option maxRecDepth 20000
set_option maxHeartbeats 4000000
theorem rtwo_ok {Φ:Fz} {K:List Res} {w:World} {r i:Nat} {rs:Value} {ws:List Bs} {d:Nat} (hd:d≤1000) (hE:ExprOk ws d) (G:Glob Φ) (rl:SliceOf RStr Φ 1 rs ws) (hws:ws.length≤1000000) (hi:i≤ws.length) (hm:Mem Φ (.blk r (ob [rs,.int .i64 ((i:Nat):Int)] 208)::K) w) :
  Calls Tryz.prog 218 (List.toArray [.pointer (some ⟨r,0,none⟩),.int .i64 ((d+1:Nat):Int)]) w (fun ee w'=>Out (twoP (z0q ws d) i) (fun x=>∃y:Fz×Value,ee=.returned y.2∧(Φ.Le y.1∧SliceOf REx y.1 5 y.2 x.1)∧Mem y.1 (.blk r (ob [rs,.int .i64 ((x.2:Nat):Int)] 208)::K) w') (fun c=>ee=.panicked (z8s c)∧Mem Φ K w')):=by
 obtain ⟨pw,cw,rfl,hmw,hnw⟩:=rl.fm
 refine z0l func218 ntmps218 fun Q hQ a he =>?_
 refine Qq he hm (fun a he =>?_) (o:=by exact fun _ _ _ he hs=>z7h ((d:Nat):Int) he rfl rfl (by rw [z1d (by omega)];omega))
 refine z4u hQ call180 he hm (fun q3 y4 w hq5 hG6 hm a he =>?_) (fun q3 w hq5 hm =>?_) (c:=hE G rl (i:=i) (by omega) hm)
 obtain ⟨Ψ7,d8⟩:=y4
 obtain ⟨le9,hr10⟩:=hG6
 simp only at le9 hr10 hm he
 have hgo11:=z3n d _ _ hq5
 replace rl:=rl.up le9
 replace G:=G.mono le9
 replace hm:=hm.nf
 obtain ⟨p14,c15,p20,c21,rfl,hi24,h13,h19,hm16,hn17,hm22,hn23⟩:=REx.fm hr10
 refine Alc he hm fun b25 w hm a he =>?_
 refine Sto 0 he hm fun w hm a he =>?_
 refine Reg [2,1,1,1,0,0,1] [0] he hm fun w hm a he =>?_
 refine Qq he hm (fun a he =>?_) (o:=by exact fun _ _ _ he hs=>z7h ((d:Nat):Int) he rfl rfl (by rw [z1d (by omega)];omega))
 replace hm:=hm.pl 1
 refine z4u hQ call180 he hm (fun q27 y28 w hq29 hG30 hm a he =>?_) (fun q27 w hq29 hm =>?_) (c:=hE G rl (i:=q3.2) (by omega) hm)
 obtain ⟨Ψ31,d32⟩:=y28
 obtain ⟨le33,hr34⟩:=hG30
 simp only at le33 hr34 hm he
 have hgo35:=z3n d _ _ hq29
 replace G:=G.mono le33
 replace hr10:=REx.mono _ _ _ _ le33 hr10
 replace hm:=hm.nf
 obtain ⟨p38,c39,p44,c45,rfl,hi48,h37,h43,hm40,hn41,hm46,hn47⟩:=REx.fm hr34
 refine BldS he hm fun v49 w hm a he =>?_
 refine go he hm fun a he =>?_
 have hm0_:=hm
 clear hm
 obtain ⟨Ψ50,le51,hm,hrow52⟩:=hm0_.freezeRow (i:=0) rfl
 clear hm0_
 replace G:=G.mono le51
 replace hr10:=REx.mono _ _ _ _ le51 hr10
 replace hr34:=REx.mono _ _ _ _ le51 hr34
 replace hm:=hm.nf
 have hsl53:SliceOf REx Ψ50 5 _ ([q3.1,q27.1]):=⟨_,hrow52,(Chunks.two (k:=5) rfl hr10 rfl hr34 :)⟩
 obtain ⟨p54,c55,hv_,hm56,hn57⟩:=hsl53.form (by decide)
 have hmk_:=hm
 clear hm
 subst hv_
 have hm:=hmk_
 clear hmk_
 replace hm:=hm.dl [1]
 refine Ret1 hQ he hm ?_
 show Out (twoP (z0q ws d) i) _ _
 rw [show twoP (z0q ws d) i=.ok ([q3.1,q27.1],q27.2) from (z0b hq5).trans ((z0b hq29).trans (rfl))]
 exact ⟨(Ψ50,_),rfl,⟨((le9).trans le33).trans le51,hsl53⟩,hm⟩
 replace hm:=hm.dl [0]
 show Out (twoP (z0q ws d) i) _ _
 rw [show twoP (z0q ws d) i=.error _ from (z0b hq5).trans (z0j hq29)]
 exact ⟨rfl,hm.le (le9)⟩
 show Out (twoP (z0q ws d) i) _ _
 rw [show twoP (z0q ws d) i=.error _ from z0j hq5]
 exact ⟨rfl,hm.le (Fz.Le.refl _)⟩
theorem rlist_ok {Φ:Fz} {K:List Res} {w:World} {r i:Nat} {rs:Value} {ws:List Bs} {m:Nat} {d:Nat} (hd:d≤1000) (hE:ExprOk ws d) (G:Glob Φ) (rl:SliceOf RStr Φ 1 rs ws) (hws:ws.length≤1000000) (hi:i≤ws.length) (hm:Mem Φ (.blk r (ob [rs,.int .i64 ((i:Nat):Int)] 208)::K) w) :
  Calls Tryz.prog 219 (List.toArray [.pointer (some ⟨r,0,none⟩),.int .i64 ((m:Nat):Int),.int .i64 ((d+1:Nat):Int)]) w (fun ee w'=>Out (z6q ws (z0q ws d) (ws.length+1) m i) (fun x=>∃y:Fz×Value,ee=.returned y.2∧(Φ.Le y.1∧SliceOf REx y.1 5 y.2 x.1)∧Mem y.1 (.blk r (ob [rs,.int .i64 ((x.2:Nat):Int)] 208)::K) w') (fun c=>ee=.panicked (z8s c)∧Mem Φ K w')):=by
 obtain ⟨pw,cw,rfl,hmw,hnw⟩:=rl.fm
 refine z0l func219 ntmps219 fun Q hQ a he =>?_
 refine go he hm fun a he =>?_
 replace hm:=hm.nilRow 66 5
 replace hm:=hm.nf
 refine z1i (he.ks [0,1,2]) hm (fun R mm a w=>∃(Ψ4:Fz) (j:Nat) (u:Value) (cs:List Value) (xs:List Ex) (f:Nat),mm=ws.length - j∧R Ψ4 [(7,u)] [(0,.gs (u) 66 5 cs),(1,.blk r (ob [.slice pw ws.length cw,.int .i64 ((j:Nat):Int)] 208))] a w∧(Φ.Le Ψ4∧(Chunks (REx Ψ4) 5 cs xs∧xs.length≤j∧j≤ws.length∧xs.length+f=ws.length+1∧z6q ws (z0q ws d) (ws.length+1) m i=pre1 xs (z6q ws (z0q ws d) f (m - xs.length) j)))) (ws.length - i) ⟨Φ,i,.slice none 0 0,[],[],ws.length+1,rfl,⟨he.pk,hm⟩,⟨Fz.Le.refl _,⟨rfl,Nat.zero_le _,hi,Nat.zero_add _,y0u _⟩⟩⟩ ?_
 clear hm he
 rintro mm a w ⟨Ψ4,j,u,cs,xs,f,hmu,⟨he,hm⟩,hI7⟩ L6 hL6
 replace hm:=hm.nf
 obtain ⟨le5,hI7⟩:=hI7
 replace rl:=rl.up le5
 replace G:=G.mono le5
 obtain ⟨hch,hxl,hj,hf_,hI_⟩:=hI7
 refine Qq he hm (fun a he =>?_) (o:=by exact fun _ _ _ he hs=>y_len_gs 0 (xs.length) he hs rfl rfl (hch.length) (by decide) runUnderlying63)
 refine go he hm fun a he =>?_
 by_cases h10:xs.length < m
 refine Qq he hm (fun a he =>?_) (o:=by exact fun _ _ _ he hs=>z7h ((d:Nat):Int) he rfl rfl (by rw [z1d (by omega)];omega))
 replace hm:=hm.pl 1
 refine z4u hQ call180 he hm (fun q11 y12 w hq13 hG14 hm a he =>?_) (fun q11 w hq13 hm =>?_) (c:=hE G rl (i:=j) (by omega) hm)
 obtain ⟨Ψ15,d16⟩:=y12
 obtain ⟨le17,hr18⟩:=hG14
 simp only at le17 hr18 hm he
 have hgo19:=z3n d _ _ hq13
 replace rl:=rl.up le17
 replace G:=G.mono le17
 replace hch:=hch.mono fun _ _ h=>REx.mono _ _ _ _ le17 h
 replace hm:=hm.nf
 obtain ⟨p22,c23,p28,c29,rfl,hi32,h21,h27,hm24,hn25,hm30,hn31⟩:=REx.fm hr18
 refine BldS he hm fun v33 w hm a he =>?_
 refine App_ 2 rt_63 he hm (fun v34 w hm a he =>?_)
 refine go he hm fun a he =>?_
 replace hm:=hm.ar [0] [1]
 refine hL6 _ _ _ (by subst hmu;omega) ⟨(Ψ15),(q11.2),(v34),((cs++[.int .i64 (q11.1.kind),.int .i64 (q11.1.num),.string q11.1.name,.slice p22 q11.1.args.length c23,.slice p28 q11.1.arms.length c29])),(xs++[q11.1]),(f - 1),rfl,⟨he.pk,by exact hm⟩,?_⟩
 refine ⟨(le5).trans le17,?_⟩
 exact ⟨hch.snoc rfl hr18,by simp only [List.length_append,List.length_cons,List.length_nil];omega,by omega,by simp only [List.length_append,List.length_cons,List.length_nil];omega,list_step hI_ (by omega) (.inl h10) hq13⟩
 replace hm:=hm.dl [0]
 show Out (z6q ws (z0q ws d) (ws.length+1) m i) _ _
 rw [show z6q ws (z0q ws d) (ws.length+1) m i=.error _ from list_fail hI_ (by omega) (.inl h10) hq13]
 exact ⟨rfl,hm.le (le5)⟩
 replace hm:=hm.pl 1
 refine z0y call179 he hm (fun w hm a he =>?_) (c:=z6h (i:=j) rl hws (by omega) hm)
 by_cases h35:(z0e ws j)=(⟨#[41]⟩:ByteArray)
 refine go he hm fun a he =>?_
 have hm0_:=hm
 clear hm
 obtain ⟨Ψ37,le38,hm,hrow39⟩:=hm0_.freezeRow (i:=1) rfl
 clear hm0_
 replace rl:=rl.up le38
 replace G:=G.mono le38
 replace hch:=hch.mono fun _ _ h=>REx.mono _ _ _ _ le38 h
 replace hm:=hm.nf
 have hsl40:SliceOf REx Ψ37 5 _ (xs):=⟨_,hrow39,hch⟩
 obtain ⟨p41,c42,hv_,hm43,hn44⟩:=hsl40.form (by decide)
 have hmk_:=hm
 clear hm
 subst hv_
 have hm:=hmk_
 clear hmk_
 refine Ret1 hQ he hm ?_
 show Out (z6q ws (z0q ws d) (ws.length+1) m i) _ _
 rw [show z6q ws (z0q ws d) (ws.length+1) m i=.ok (xs,j) from list_fin hI_ (by omega) h10 h35]
 exact ⟨(Ψ37,_),rfl,⟨(le5).trans le38,hsl40⟩,hm⟩
 refine Qq he hm (fun a he =>?_) (o:=by exact fun _ _ _ he hs=>z7h ((d:Nat):Int) he rfl rfl (by rw [z1d (by omega)];omega))
 refine z4u hQ call180 he hm (fun q45 y46 w hq47 hG48 hm a he =>?_) (fun q45 w hq47 hm =>?_) (c:=hE G rl (i:=j) (by omega) hm)
 obtain ⟨Ψ49,d50⟩:=y46
 obtain ⟨le51,hr52⟩:=hG48
 simp only at le51 hr52 hm he
 have hgo53:=z3n d _ _ hq47
 replace G:=G.mono le51
 replace hch:=hch.mono fun _ _ h=>REx.mono _ _ _ _ le51 h
 replace hm:=hm.nf
 obtain ⟨p56,c57,p62,c63,rfl,hi66,h55,h61,hm58,hn59,hm64,hn65⟩:=REx.fm hr52
 refine BldS he hm fun v67 w hm a he =>?_
 refine App_ 2 rt_63 he hm (fun v68 w hm a he =>?_)
 refine go he hm fun a he =>?_
 replace hm:=hm.ar [0] [1]
 refine hL6 _ _ _ (by subst hmu;omega) ⟨(Ψ49),(q45.2),(v68),((cs++[.int .i64 (q45.1.kind),.int .i64 (q45.1.num),.string q45.1.name,.slice p56 q45.1.args.length c57,.slice p62 q45.1.arms.length c63])),(xs++[q45.1]),(f - 1),rfl,⟨he.pk,by exact hm⟩,?_⟩
 refine ⟨(le5).trans le51,?_⟩
 exact ⟨hch.snoc rfl hr52,by simp only [List.length_append,List.length_cons,List.length_nil];omega,by omega,by simp only [List.length_append,List.length_cons,List.length_nil];omega,list_step hI_ (by omega) (.inr h35) hq47⟩
 replace hm:=hm.dl [0]
 show Out (z6q ws (z0q ws d) (ws.length+1) m i) _ _
 rw [show z6q ws (z0q ws d) (ws.length+1) m i=.error _ from list_fail hI_ (by omega) (.inr h35) hq47]
 exact ⟨rfl,hm.le (le5)⟩
end Go.Sw
