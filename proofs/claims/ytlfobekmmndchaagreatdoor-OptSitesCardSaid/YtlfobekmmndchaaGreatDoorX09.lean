import Derived.Lib.SliceRun
import Derived.DeepKeys
import Derived.Test.YtlfobekmmndchaaGreatDoorX08
set_option linter.unusedVariables false
set_option linter.unusedSimpArgs false
namespace Go.Sw
open Go.Proofs Go.Proofs.Tryz
set_option maxRecDepth 20000
set_option maxHeartbeats 4000000
def aU {α σ:Type} (step:σ->α->σ×Bool) (bad:σ->α->Bool):σ->List α->Option (σ×Bool)
 | s,[]=>some (s,true)
 | s,x::l=>bif bad s x then none else bif (step s x).2 then aU step bad (step s x).1 l else some ((step s x).1,false)
theorem z2r {α σ:Type} {step:σ->α->σ×Bool} {bad:σ->α->Bool} {s:σ} {x:α} {l:List α} (h:bad s x=true):aU step bad s (x::l)=none:=by rw [aU,h];rfl
theorem z2s {α σ:Type} {step:σ->α->σ×Bool} {bad:σ->α->Bool} {s:σ} {x:α} {l:List α} (hb:bad s x=false) (h:(step s x).2=true):aU step bad s (x::l)=aU step bad (step s x).1 l:=by rw [aU,hb,h];rfl
theorem z6v {α σ:Type} {step:σ->α->σ×Bool} {bad:σ->α->Bool} {s:σ} {x:α} {l:List α} (hb:bad s x=false) (h:(step s x).2=false):aU step bad s (x::l)=some ((step s x).1,false):=by rw [aU,hb,h];rfl
structure StepsP {α σ β:Type} (P:Program) (y:Value) (c0:List PanicEntry) (Φ:Fz) (RA:Fz->Value->Value->α->Prop) (items:List α) (step:σ->α->σ×Bool) (bad:σ->α->Bool) (G:Fz->σ->Bool->β->Prop) (KV:σ->Bool->β->List Res) (KP:List Res):Prop where
 fn:∃f fs cs,y=.func f fs cs
 mono:∀Ψ Ψ' s b z,Ψ.Le Ψ'->G Ψ s b z->G Ψ' s b z
 go:∀Ψ s z v1 v2 x K0 w,Φ.Le Ψ->x∈items->RA Ψ v1 v2 x->G Ψ s true z->Mem Ψ (K0++KV s true z) w ->
  Fires P y [v1,v2] w (fun e w'=>(bad s x=true/\e=.panicked c0/\∃Ψ',Ψ.Le Ψ'/\Mem Ψ' (K0++KP) w') ∨
   (bad s x=false/\e=.returned (.bool (step s x).2)/\∃Ψ' z',Ψ.Le Ψ'/\G Ψ' (step s x).1 (step s x).2 z'/\Mem Ψ' (K0++KV (step s x).1 (step s x).2 z') w'))
def q8o {α:Type} (P:Program) (c0:List PanicEntry) (Φ:Fz) (gf:FuncId) (fs cs:List Value) (RA:Fz->Value->Value->α->Prop) (items:List α):Prop :=
 ∀{σ β:Type} (y:Value) (Ψ:Fz) (step:σ->α->σ×Bool) (bad:σ->α->Bool) (G:Fz->σ->Bool->β->Prop) (KV:σ->Bool->β->List Res) (KP:List Res) (s0:σ) (z0:β) (w:World),Φ.Le Ψ->StepsP P y c0 Ψ RA items step bad G KV KP->G Ψ s0 true z0->Mem Ψ (KV s0 true z0) w ->
  Calls P gf (fs++[y]++cs).toArray w (fun e w'=>(aU step bad s0 items=none/\e=.panicked c0/\∃Ψ',Ψ.Le Ψ'/\Mem Ψ' KP w') ∨
   (∃q v Ψ' z,aU step bad s0 items=some q/\e=.returned v/\Ψ.Le Ψ'/\G Ψ' q.1 q.2 z/\Mem Ψ' (KV q.1 q.2 z) w'))
section
variable {P:Program} {Φ:Fz} {K:List Res} {w:World}
theorem j4w {l:Nat} {r:Loop} {tmps:Array Value} {j:Jmp} {c bd:Bool} {c0:List PanicEntry} {X:Obj->World->Prop} {Y:World->Prop} {fd:Func} (n:P.funcs[r.fn]? = some fd) (d:r.state=.ready) (g:r.pending=none)
  (z:∀o w,X o w->w.heap[l]? = some o) (k:∀o o' w,X o w->X o' (w.putObj l o'))
  (y:r.assign.wpIn (FO (some l)) 2 P (Exit.then (fun s q=>∃K1,Mem Φ (.blk l (.loop r)::K1) q/\∀m,Mem Φ (.blk l (.loop { r with state:=.busy })::K1) m ->
   r.body.wpIn (FO (some l)) 2 P (fun e a w=>(bd=true/\e=.panic c0/\a.defers=[]/\Y w)∨(bd=false/\z8i j c e/\X (.loop { r with state:=.busy }) w)) s m) (fun _ _ _=>False)) ⟨tmps,[]⟩ w) :
  RoundIn Fence.wide 2 P l r.fn tmps r.assign r.body w (fun e w'=>(bd=true/\e=.panicked c0/\Y w')∨(bd=false/\e=.returned (.bool c)/\X (.loop (nJ r j c)) w')):=by
 refine z4g n (Code.wpIn_mono (fun e s q h=>?_) y)
 cases e with
 | normal=>
  obtain ⟨K1,t,u⟩:=h
  have hl:q.heap[l]? = some (.loop r):=t.own _ msQ
  refine ⟨_,run_beginRound hl d,?_⟩
  refine Code.wpIn_mono (fun e a2 m h=>?_) (u _ (t.putObj (i:=0) (o':=.loop { r with state:=.busy }) rfl))
  rcases h with ⟨hb,rfl,A,B⟩ | ⟨hb,J,p⟩
  ·exact ⟨A,.inl ⟨hb,rfl,B⟩⟩
  ·have b:m.heap[l]? = some (.loop { r with state:=.busy }):=z _ _ p
   cases c with
   | true=>
    obtain rfl:e=.normal:=J
    refine ⟨_,_,run_endRound none b,.inr ⟨hb,rfl,?_⟩⟩
    have v:({ ({ r with state:=.busy }:Loop) with state:=.ready,pending:=none }:Loop)=r:=by cases r;simp only at d g;subst d;subst g;rfl
    have f:=k _ (.loop { ({ r with state:=.busy }:Loop) with state:=.ready,pending:=none }) _ p
    simp only [nJ,cond_true,Option.isNone_none,if_true]
    rw [v] at f ⊢;exact f
   | false=>
    have f:=k _ (.loop { ({ r with state:=.busy }:Loop) with state:=.done,pending:=some j.code }) _ p
    cases j with
    | ret=>
     obtain rfl:e=.ret:=J
     exact ⟨_,_,run_endRound (some .ret) b,.inr ⟨hb,rfl,f⟩⟩
    | exit id=>
     obtain rfl:e=.exit id:=J
     exact ⟨_,_,run_endRound (some (.exit id)) b,.inr ⟨hb,rfl,f⟩⟩
 | exit id=>exact h.elim
 | goto l=>exact h.elim
 | ret=>exact h.elim
 | panic c=>exact h.elim
 | outgrown=>exact h.elim
theorem oO {α σ β:Type} {n gf f p1 p2:Nat} {E:List (Nat×Value)} {Dd:List Deferred} {a:Act} {g:Operand} {assign body:Code} {Q:Exit->Act->World->Prop} {fs cs:List Value} {fd:Func} {c0:List PanicEntry}
  (RA:Fz->Value->Value->α->Prop) (items:List α) (j:Jmp) (step:σ->α->σ×Bool) (bad:σ->α->Bool) (G:Fz->σ->Bool->β->Prop) (KV:σ->Bool->β->List Res) (KP:List Res) (s0:σ) (z0:β)
  (V:P.funcs[f]? = some fd) (J:EnvR n E Dd a) (hG:G Φ s0 true z0) (N:Mem Φ (KV s0 true z0) w) (hg:ev E g=some (.func (.func gf) fs.toArray cs.toArray)) (hf:∀args w,(callFunc gf args).run P w=.ok (.enter gf args) w) (hp:Nat.blt p1 n=true) (W:Nat.blt p2 n=true)
  (D:∀Ψ Ψ' s b z,Ψ.Le Ψ'->G Ψ s b z->G Ψ' s b z)
  (hr:∀Ψ s z v1 v2 x l o1 o2 K' a w,Φ.Le Ψ->x∈items->RA Ψ v1 v2 x->G Ψ s true z->EnvR n ((p2,v2)::(p1,v1)::E) [] a->Mem Ψ (.blk l o1::(KV s true z++K')) w ->
   assign.wpIn (FO (some l)) 2 P (Exit.then (fun a1 B=>∃K1,Mem Ψ (.blk l o1::K1) B/\∀w2,Mem Ψ (.blk l o2::K1) w2 ->
    body.wpIn (FO (some l)) 2 P (fun e a w=>(bad s x=true/\e=.panic c0/\a.defers=[]/\∃Ψ',Ψ.Le Ψ'/\Mem Ψ' (.blk l o2::(KP++K')) w) ∨
     (bad s x=false/\z8i j (step s x).2 e/\∃Ψ' z',Ψ.Le Ψ'/\G Ψ' (step s x).1 (step s x).2 z'/\Mem Ψ' (.blk l o2::(KV (step s x).1 (step s x).2 z'++K')) w)) a1 w2) (fun _ _ _=>False)) a w)
  (hc:q8o P c0 Φ gf fs cs RA items)
  (kn:∀u,aU step bad s0 items=some (u,true)->∀Dk Ψ z a w,Φ.Le Ψ->G Ψ u true z->EnvR n E ({ target:=.collected Dk,args:=#[] }::Dd) a->Mem Ψ (.blk Dk (.deferred (some []))::KV u true z) w->Q .normal a w)
  (kj:∀u,aU step bad s0 items=some (u,false)->∀Dk Ψ z a w,Φ.Le Ψ->G Ψ u false z->EnvR n E ({ target:=.collected Dk,args:=#[] }::Dd) a->Mem Ψ (.blk Dk (.deferred (some []))::KV u false z) w->Q j.ex a w)
  (kp:aU step bad s0 items=none->∀Dk Ψ a w,Φ.Le Ψ->EnvR n E ({ target:=.collected Dk,args:=#[] }::Dd) a->Mem Ψ (.blk Dk (.deferred (some []))::KP) w->Q (.panic c0) a w):wpB P f (Code.rangeFunc g #[p1,p2] assign body) Q a w:=by
 refine y2f ?_
 let r:Loop:={ state:=.ready,pending:=none,fn:=f,tmps:=a.tmps,params:=#[p1,p2],assign,body,defers:=w.heap.size }
 generalize H:((w.alloc (.deferred (some []))).alloc (.loop r))=B
 have A:Mem Φ (.blk (w.heap.size+1) (.loop r)::.blk w.heap.size (.deferred (some []))::KV s0 true z0) B:=by
  have y:=N.push (.deferred (some []))
  have t:=y.push (.loop r)
  have K:({ w with heap:=w.heap.push (.deferred (some [])) }:World).heap.size=w.heap.size+1:=Array.size_push _
  rw [K] at t
  rw [<- H];exact t
 have R:EnvR n E [] ⟨r.tmps,[]⟩:=⟨J.size,J.env,rfl⟩
 have M:EnvR n E ({ target:=.collected w.heap.size,args:=#[] }::Dd) { a with defers:=[{ target:=.collected w.heap.size,args:=#[] }]++a.defers }:=⟨J.size,J.env,by simp [J.defs]⟩
 generalize hL:w.heap.size+1=l at *
 generalize hD:w.heap.size=Dk at *
 have C:=hc (.func (.yield l) #[] #[]) Φ step bad G (fun s b z=>.blk l (.loop (nJ r j b))::.blk Dk (.deferred (some []))::KV s b z) (.blk l (.loop { r with state:=.busy })::.blk Dk (.deferred (some []))::KP) s0 z0 B (Fz.Le.refl _) ⟨⟨_,_,_,rfl⟩,D,fun Ψ s z v1 v2 x K0 w k hx Z S N=>.inr ⟨l,rfl,?_⟩⟩ hG A
 ·refine ⟨l,[{ target:=.collected Dk,args:=#[] }],B,{ target:=.fn (.func gf) cs.toArray,args:=(fs++[Value.func (.yield l) #[] #[]]).toArray },B,gf,(fs++[Value.func (.yield l) #[] #[]]++cs).toArray,B,?_,?_,?_,?_⟩
  ·rw [run_enterLoop_outer]
   subst hD;subst hL;rw [<- H]
  ·have y:=J.ev hg
   have t:a.eval (.const (.func (.yield l) #[] #[]))=.func (.yield l) #[] #[]:=rfl
   simp only [resolve,Sem.run_bind,y,t,List.map_toArray,List.map_cons,List.map_nil]
   simp [Deferred.ofValue]
  ·have:=hf (fs++[Value.func (.yield l) #[] #[]]++cs).toArray B
   simp only [invoke]
   simpa using this
  ·refine C.mono fun e w3 h=>?_
   rcases h with ⟨hq,rfl,Ψ,k,m⟩ | ⟨q,v,Ψ,z,hq,rfl,k,F,m⟩
   ·exact kp hq _ _ _ _ k M m.tail
   ·obtain ⟨u,b2⟩:=q
    have hl:w3.heap[l]? = some (.loop (nJ r j b2)):=m.own _ msQ
    cases b2 with
    | true=>
     refine ⟨_,_,run_endLoop hl (by intro h;cases h),?_⟩
     exact kn u hq _ _ z _ _ k F M (m.putObj (i:=0) rfl).tail
    | false=>
     have hk:=kj u hq _ _ z _ _ k F M (m.putObj (i:=0) (o':=.loop { nJ r j false with state:=.exhausted }) rfl).tail
     refine ⟨_,_,run_endLoop hl (by intro h;cases h),?_⟩
     cases j with
     | ret=>exact wpIn_ret hk
     | exit id=>exact wpIn_exit hk
 ·have A:Mem Ψ (.blk l (.loop r)::(KV s true z++(.blk Dk (.deferred (some []))::K0))) w:=N.perm (List.perm_middle.trans (List.Perm.cons _ (List.perm_middle.trans ((List.Perm.cons _ List.perm_append_comm).trans List.perm_middle.symm))))
  have hl:w.heap[l]? = some (.loop r):=A.own _ msQ
  refine ⟨r.fn,(r.tmps.setIfInBounds p1 v1).setIfInBounds p2 v2,r.assign,r.body,?_,?_⟩
  ·rw [run_yield hl rfl]
   simp [r]
  ·have T:EnvR n ((p1,v1)::E) [] ⟨r.tmps.setIfInBounds p1 v1,[]⟩:=R.put (d:=p1) hp
   have U:EnvR n ((p2,v2)::(p1,v1)::E) [] ⟨(r.tmps.setIfInBounds p1 v1).setIfInBounds p2 v2,[]⟩:=T.put (d:=p2) W
   have h:=j4w (P:=P) (Φ:=Ψ) (l:=l) (r:=r) (j:=j) (c:=(step s x).2) (bd:=bad s x) (c0:=c0) (tmps:=(r.tmps.setIfInBounds p1 v1).setIfInBounds p2 v2) (fd:=fd) (Y:=fun w=>∃Ψ',Ψ.Le Ψ'/\Mem Ψ' (.blk l (.loop { r with state:=.busy })::(KP++(.blk Dk (.deferred (some []))::K0))) w)
    (X:=fun o w=>∃Ψ' z',Ψ.Le Ψ'/\G Ψ' (step s x).1 (step s x).2 z'/\Mem Ψ' (.blk l o::(KV (step s x).1 (step s x).2 z'++(.blk Dk (.deferred (some []))::K0))) w) V rfl rfl
    (fun o w h=>by obtain ⟨_,_,_,_,h⟩:=h;exact h.own _ msQ)
    (fun o o' w h=>by obtain ⟨Ψ',z',y,t,h⟩:=h;exact ⟨Ψ',z',y,t,h.putObj (i:=0) rfl⟩)
    (hr Ψ s z v1 v2 x l _ _ _ _ _ k hx Z S U A)
   have p:∀(o:Res) (l2:List Res),(o::(l2++(.blk Dk (.deferred (some []))::K0))).Perm (K0++(o::.blk Dk (.deferred (some []))::l2)):=fun o l2=>(List.Perm.cons _ ((List.perm_middle.trans (List.Perm.cons _ List.perm_append_comm)).trans List.perm_middle.symm)).trans List.perm_middle.symm
   refine h.mono fun e w' hh=>?_
   rcases hh with ⟨I,y,Ψ',t,L⟩ | ⟨I,y,Ψ',z',t,K,L⟩
   ·exact .inl ⟨I,y,Ψ',t,L.perm (p _ _)⟩
   ·exact .inr ⟨I,y,Ψ',z',t,K,L.perm (p _ _)⟩
end
section
variable {P:Program} {n m:Nat} {E:List (Nat×Value)} {D:List Deferred} {a:Act} {w:World} {ops:Array Oper} {rest:List Oper} {Q:Exit->Act->World->Prop} {r:Option Nat} {d:Nat} {op:Op} {ty:TypeId} {pos:String} {aft:Array Edge}
theorem z4x {y:Operand} {xs:Array Operand} {vs:List Value} {ts:Array TypeId} {yv u:Value} {c0:List PanicEntry} {JJ JP:World->Prop} {Kn:Value->World->Prop} {Qp:List PanicEntry->World->Prop} {dst:Option Tmp} {g:Option (Nat×Bool)} (J:EnvR n E D a) (h:ev E y=some yv) (d:evs E xs.toList=some vs)
  (p:Fires P yv vs w (fun e w'=>(JP w'/\e=.panicked c0)∨(JJ w'/\e=.returned u))) (k:∀w',JJ w'->Kn u w') (kp:∀w',JP w'->Qp c0 w'):Oper.effR P ⟨dst,.call { callee:=.value y,args:=xs,argTypes:=ts },ty,pos,aft,g⟩ a w Kn Qp:=by
 unfold Oper.effR
 rcases p with ⟨f,fs,cs,rfl,o,m⟩ | ⟨l,rfl,fn,tmps,assign,body,i,j⟩
 ·have c:(execOp a.eval ⟨dst,.call { callee:=.value y,args:=xs,argTypes:=ts },ty,pos,aft,g⟩).run P w=.ok (.enter f (fs++vs++cs).toArray) w:=by
   simp only [execOp,resolve,Sem.run_bind,J.evsA d,J.ev h,Deferred.ofValue]
   have:=o (fs++vs++cs).toArray w
   simp only [invoke]
   simpa [Sem.run_bind,Result.andThen] using this
  rw [c]
  refine m.mono fun e w' he'=>?_
  rcases he' with ⟨b,rfl⟩ | ⟨b,rfl⟩
  ·exact kp _ b
  ·exact k _ b
 ·have c:(execOp a.eval ⟨dst,.call { callee:=.value y,args:=xs,argTypes:=ts },ty,pos,aft,g⟩).run P w=.ok (.round l fn tmps assign body) w:=by
   simp only [execOp,resolve,Sem.run_bind,J.evsA d,J.ev h,Deferred.ofValue]
   simp [invoke,Sem.run_bind,Result.andThen,i]
  rw [c]
  refine j.mono fun e w' he'=>?_
  rcases he' with ⟨b,rfl⟩ | ⟨b,rfl⟩
  ·exact kp _ b
  ·exact k _ b
theorem y6i {o:Oper} (J:EnvR n E D a) (i:o.dst=some d) (b:Nat.blt d n=true) (j:o.guard=none) (e:∀c,o.op≠.defer c)
  (h:Oper.effR P o a w (fun v w'=>∀a,EnvR n ((d,v)::E) D a->wpListIn (FO r) m P ops Q rest a w') (fun c w'=>Q (.panic c) a w')):wpListIn (FO r) m P ops Q (o::rest) a w:=by
 refine wpListIn_plain j fun L f=>aW (fun _=>e) (jU h (fun v w' k=>f _ _ ?_) (fun c w' g=>g))
 rw [i];exact k _ (J.put b)
theorem in_stP {o:Oper} (J:EnvR n E D a) (f:o.dst=some d) (b:Nat.blt d n=true) (g:o.guard=none) (e:∀c,o.op≠.defer c)
  (h:Oper.eff P o a w (fun v w'=>∀a,EnvR n ((d,v)::E) D a->wpListIn (FO r) m P ops Q rest a w') (fun c w'=>Q (.panic c) a w')):wpListIn (FO r) m P ops Q (o::rest) a w :=
 y6i J f b g e (Oper.eff.toR h)
end
theorem StepsP.fire {α σ β:Type} {P:Program} {y:Value} {c0:List PanicEntry} {Φ:Fz} {RA:Fz->Value->Value->α->Prop} {items:List α} {step:σ->α->σ×Bool} {bad:σ->α->Bool} {G:Fz->σ->Bool->β->Prop} {KV:σ->Bool->β->List Res} {KP:List Res}
  (h:StepsP P y c0 Φ RA items step bad G KV KP) {Ψ:Fz} {s:σ} {z:β} {v1 v2:Value} {x:α} {K0:List Res} {w:World} (hl:Φ.Le Ψ) (f:x∈items) (ra:RA Ψ v1 v2 x) (hG:G Ψ s true z) (N:Mem Ψ (K0++KV s true z) w) :
  Fires P y [v1,v2] w (fun e w'=>((bad s x=true/\∃Ψ',Ψ.Le Ψ'/\Mem Ψ' (K0++KP) w')/\e=.panicked c0)∨((bad s x=false/\∃Ψ' z',Ψ.Le Ψ'/\G Ψ' (step s x).1 (step s x).2 z'/\Mem Ψ' (K0++KV (step s x).1 (step s x).2 z') w')/\e=.returned (.bool (step s x).2))) :=
 (h.go Ψ s z v1 v2 x K0 w hl f ra hG N).mono fun e w' d=>by
  rcases d with ⟨a,b,c⟩ | ⟨a,b,c⟩
  ·exact .inl ⟨⟨a,c⟩,b⟩
  ·exact .inr ⟨⟨a,c⟩,b⟩
def vN {α:Type} (l:List α):Nat->List (Nat×α)
 | 0=>[]
 | m+1=>match l[m]? with | some x=>(m,x)::vN l m | none=>vN l m
theorem kN {α:Type} {l:List α} {m:Nat} {x:α} (h:l[m]? = some x):vN l (m+1)=(m,x)::vN l m:=by rw [vN,h]
theorem z3m {α:Type} {l:List α} {m:Nat} {x:α} (h:l[m]? = some x):∀{k:Nat},m < k->(m,x)∈vN l k
 | 0,a=>absurd a (Nat.not_lt_zero _)
 | k+1,a=>by
  by_cases e:m=k
  ·subst e;rw [kN h];exact msQ
  ·have:=z3m h (k:=k) (by omega)
   rw [vN];split
   ·exact mcQ _ this
   ·exact this
theorem dY {α:Type} {l:List α}:∀{k:Nat} {p:Nat×α},p∈vN l k->l[p.1]? = some p.2
 | 0,p,h=>by cases h
 | k+1,p,h=>by
  rw [vN] at h
  split at h
  ·rename_i x a
   rcases List.mem_cons.1 h with rfl | h
   ·exact a
   ·exact dY h
  ·exact dY h
theorem y2p {α:Type} (l:List α):∀k,k<=l.length->(vN l k).map Prod.snd=(l.take k).reverse
 | 0,_=>by simp [vN]
 | k+1,h=>by
  have a:l[k]? = some l[k]:=List.getElem?_eq_getElem (by omega)
  rw [kN a,List.map_cons,y2p l k (by omega),jA a,List.reverse_append];rfl
def RBk (Ψ:Fz) (v1 v2:Value) (x:Nat×TE):Prop:=v1=.int .i64 x.1/\RPtE Ψ [v2] x.2
theorem Steps.goM {α σ β:Type} {P:Program} {y:Value} {Φ:Fz} {RA:Fz->List Value->α->Prop} {items:List α} {step:σ->α->σ×Bool} {G:Fz->σ->Bool->β->Prop} {KV:σ->Bool->β->List Res}
  (h:Steps P y Φ RA items step G KV) {Ψ:Fz} {s:σ} {z:β} {c:List Value} {x:α} (A:List Res) {K1:List Res} {w:World} (hl:Φ.Le Ψ) (j:x∈items) (a:RA Ψ c x) (hG:G Ψ s true z) (N:Mem Ψ (A++(KV s true z++K1)) w) :
  Fires P y [.agg c.toArray] w (fun e w'=>e=.returned (.bool (step s x).2)/\∃Ψ' z',Ψ.Le Ψ'/\G Ψ' (step s x).1 (step s x).2 z'/\Mem Ψ' (A++(KV (step s x).1 (step s x).2 z'++K1)) w'):=by
 refine (h.go Ψ s z c x (A++K1) w hl j a hG (N.perm ?_)).mono fun e w' i=>?_
 ·rw [List.append_assoc];exact List.Perm.append_left A List.perm_append_comm
 ·obtain ⟨b,Ψ',z',d,f,g⟩:=i
  exact ⟨b,Ψ',z',d,f,g.perm (by rw [List.append_assoc];exact List.Perm.append_left A List.perm_append_comm)⟩
section
variable {σ:Type} {step:σ->Rw->σ×Bool} {s0 s:σ} {f:FnS} {i:Nat} {y:Fnd} {r:Nat} {t:TE}
theorem win_yes (c:zK step s0 (qV f i y)=zK step s (jT f i y r)) (a:1<=r) (b:r<=5) (h:xL (f.try5 (r:Int) y.x y.up y.path)=.ok t) (hb:(step s ⟨(r:Int),i,y.path,0⟩).2=true) :
  zK step s0 (qV f i y)=zK step (step s ⟨(r:Int),i,y.path,0⟩).1 (jT f i y (r+1)):=by
 rw [c,dV a b (zR h),z2u hb]
theorem x2u (c:zK step s0 (qV f i y)=zK step s (jT f i y r)) (a:1<=r) (b:r<=5) (h:xL (f.try5 (r:Int) y.x y.up y.path)=.ok t) (hb:(step s ⟨(r:Int),i,y.path,0⟩).2=false) :
  zK step s0 (qV f i y)=((step s ⟨(r:Int),i,y.path,0⟩).1,false):=by
 rw [c,dV a b (zR h),tZ hb]
theorem win_no {c:Unit} (d:zK step s0 (qV f i y)=zK step s (jT f i y r)) (a:1<=r) (b:r<=5) (h:xL (f.try5 (r:Int) y.x y.up y.path)=.error c) :
  zK step s0 (qV f i y)=zK step s (jT f i y (r+1)):=by
 rw [d,y9c a b (yL h)]
theorem win_end (a:zK step s0 (qV f i y)=zK step s (jT f i y r)) (h:¬r<=5):zK step s0 (qV f i y)=(s,true):=by
 rw [a,y2e f i y h,zK]
end
theorem y5b {T:Trc} {F:TFn} {i:Nat} (a:T.funs[i]? = some F):qN T i=(zE [] [] F.body).flatMap (qV ⟨T,F⟩ i):=by
 unfold qN z5y;rw [a];rfl
theorem q8g {T:Trc} {F:TFn} {i r:Nat} {y:Fnd} {t:TE} (e:T.funs[i]? = some F) (f:y∈zE [] [] F.body) (c:1<=r) (d:r<=5) (h:xL (FnS.try5 ⟨T,F⟩ (r:Int) y.x y.up y.path)=.ok t):(⟨(r:Int),i,y.path,0⟩:Rw)∈qN T i:=by
 rw [y5b e]
 refine List.mem_flatMap.2 ⟨y,f,?_⟩
 have b:(⟨(r:Int),i,y.path,0⟩:Rw)∈jT ⟨T,F⟩ i y r:=by rw [dV c d (zR h)];exact msQ
 unfold jT at b
 obtain ⟨q,hq,a⟩:=List.mem_map.1 b
 refine List.mem_map.2 ⟨q,?_,a⟩
 rw [List.mem_filter] at hq ⊢
 exact ⟨List.mem_of_mem_drop hq.1,hq.2⟩
theorem y1i {σ:Type} {step:σ->Rw->σ×Bool} {T:Trc} {F:TFn} {i:Nat} (a:T.funs[i]? = some F) (s:σ):zK step s (qN T i)=zK (fun s x=>zK step s (qV ⟨T,F⟩ i x)) s (zE [] [] F.body):=by
 rw [y5b a];exact z2t step _ _ s
theorem Mem.rotM {Φ:Fz} {w:World} {A M V D:List Res} (h:Mem Φ (A++((M++V)++D)) w):Mem Φ (A++(V++(M++D))) w:=h.perm (List.Perm.append_left A (by
 rw [<- List.append_assoc];exact (List.perm_append_comm).append_right D))
theorem Mem.unrotM {Φ:Fz} {w:World} {A M V D:List Res} (h:Mem Φ (A++(V++(M++D))) w):Mem Φ (A++((M++V)++D)) w:=h.perm (List.Perm.append_left A (by
 rw [<- List.append_assoc];exact (List.perm_append_comm).append_right D))
theorem j2f:∀(e:TE) {p:List Int} {up:List TE} {y:Fnd},FitE p up e->y∈zE p up e->FitE y.path y.up y.x:=fun e=>by
 refine wV (C:=fun e=>∀{p:List Int} {up:List TE} {y:Fnd},FitE p up e->y∈zE p up e->FitE y.path y.up y.x) (fun e f hb p up y d g=>?_) e
 rcases wI g with rfl | ⟨j,a,b,c⟩ | ⟨j,x,b,c⟩
 ·exact d
 ·exact f a (mgQ b) (d.arm (mgQ b)) c
 ·exact hb x (mgQ b) (d.rest (mgQ b)) c
theorem q7a {e:TE} {y:Fnd} (h:FitE [] [] e) (b:y∈zE [] [] e):y.path.length * 8<=140737488355328:=by
 have a:=j2f e h b
 have:=a.1;have:=a.2;omega
theorem ROp.i64 {Φ:Fz} {p:Addr} {T:Trc} (h:ROp Φ p T) {i:Nat} (hi:i < T.funs.length):I64 ((i:Nat):Int):=by
 obtain ⟨cs,m,_,a,_⟩:=h.ex
 obtain ⟨s,t,u,v,_,_,_,_,b,_⟩:=a
 obtain ⟨p,c,_,d,_⟩:=b.form (by decide)
 unfold I64;omega
theorem rul_lt {r:Nat} (a:1<=r) (b:r<=5):(r:Int)=1∨(r:Int)=2∨(r:Int)=3∨(r:Int)=4∨(r:Int)=5:=by omega
def dU (T:Trc) (i:Nat):List Rw:=((List.range T.funs.length).drop i).flatMap (qN T)
def kH (T:Trc) (i:Nat):List Rw:=(((List.range T.funs.length).drop i).filter (vG T)).map fun (i:Nat)=>⟨7,(i:Int),[],0⟩
theorem q3x (T:Trc):qS T=dU T 0++kH T 0:=by
 unfold dU kH;rw [List.drop_zero];rfl
theorem nW {n i:Nat} (h:i < n):(List.range n).drop i=i::(List.range n).drop (i+1):=by
 rw [List.drop_eq_getElem_cons (by rw [List.length_range];exact h),List.getElem_range]
theorem tA {n i:Nat} (h:¬i < n):(List.range n).drop i=[]:=List.drop_of_length_le (by rw [List.length_range];omega)
section
variable {σ:Type} {step:σ->Rw->σ×Bool} {s0 s s1:σ} {T:Trc} {i:Nat}
theorem q7w (a:zK step s0 (qS T)=zK step s (dU T i++kH T 0)) (hi:i < T.funs.length) (hb:(zK step s (qN T i)).2=true):zK step s0 (qS T)=zK step (zK step s (qN T i)).1 (dU T (i+1)++kH T 0):=by
 rw [a,dU,nW hi,List.flatMap_cons,List.append_assoc,nX,hb];rfl
theorem q7x (a:zK step s0 (qS T)=zK step s (dU T i++kH T 0)) (hi:i < T.funs.length) (hb:(zK step s (qN T i)).2=false):zK step s0 (qS T)=((zK step s (qN T i)).1,false):=by
 rw [a,dU,nW hi,List.flatMap_cons,List.append_assoc,nX,hb];rfl
theorem q7t (a:zK step s0 (qS T)=zK step s (dU T i++kH T 0)) (hi:¬i < T.funs.length):zK step s0 (qS T)=zK step s (kH T 0):=by
 rw [a,dU,tA hi];rfl
theorem q5w (a:zK step s0 (qS T)=zK step s (kH T i)) (hi:i < T.funs.length) (hb:vG T i=false):zK step s0 (qS T)=zK step s (kH T (i+1)):=by
 rw [a,kH,nW hi,List.filter_cons,if_neg (by rw [hb];simp)];rfl
theorem z8e (hi:i < T.funs.length) (hb:vG T i=true):kH T i=⟨7,(i:Int),[],0⟩::kH T (i+1):=by
 rw [kH,nW hi,List.filter_cons,if_pos hb];rfl
theorem q5v (a:zK step s0 (qS T)=zK step s (kH T i)) (hi:i < T.funs.length) (hb:vG T i=true) (O:(step s ⟨7,(i:Int),[],0⟩).2=true):zK step s0 (qS T)=zK step (step s ⟨7,(i:Int),[],0⟩).1 (kH T (i+1)):=by
 rw [a,z8e hi hb,z2u O]
theorem q5x (a:zK step s0 (qS T)=zK step s (kH T i)) (hi:i < T.funs.length) (hb:vG T i=true) (O:(step s ⟨7,(i:Int),[],0⟩).2=false):zK step s0 (qS T)=((step s ⟨7,(i:Int),[],0⟩).1,false):=by
 rw [a,z8e hi hb,tZ O]
theorem j3f (a:zK step s0 (qS T)=zK step s (kH T i)) (hi:¬i < T.funs.length):zK step s0 (qS T)=(s,true):=by
 rw [a,kH,tA hi];rfl
end
theorem q7u {T:Trc} {i:Nat} {x:Rw} (hi:i < T.funs.length) (h:x∈qN T i):x∈qS T:=List.mem_append_left _ (List.mem_flatMap.2 ⟨i,List.mem_range.2 hi,h⟩)
theorem q7v {T:Trc} {i:Nat} (hi:i < T.funs.length) (h:vG T i=true):(⟨7,(i:Int),[],0⟩:Rw)∈qS T:=List.mem_append_right _ (List.mem_map.2 ⟨i,List.mem_filter.2 ⟨List.mem_range.2 hi,h⟩,rfl⟩)
def z7y (n:Nat) (s:List Rw) (x:Rw):List Rw×Bool:=if s.length=n then (s,false) else (s++[x],true)
theorem q3m (n:Nat):∀(l s:List Rw),s.length<=n->(zK (z7y n) s l).1=s++l.take (n - s.length)
 | [],s,_=>by rw [zK,List.take_nil,List.append_nil]
 | x::l,s,h=>by
  by_cases a:s.length=n
  ·rw [tZ (by unfold z7y;rw [if_pos a]),show (z7y n s x).1=s from by unfold z7y;rw [if_pos a],a,Nat.sub_self,List.take_zero,List.append_nil]
  ·rw [z2u (by unfold z7y;rw [if_neg a]),show (z7y n s x).1=s++[x] from by unfold z7y;rw [if_neg a]]
   rw [q3m n l (s++[x]) (by rw [laQ];simp;omega),laQ,List.append_assoc,show n - s.length=(n - (s.length+[x].length))+1 from by simp;omega,List.take_succ_cons];rfl
theorem oZ (T:Trc):(zK (z7y 500) [] (qS T)).1=qH T:=by rw [q3m 500 _ _ (by simp)];rfl
theorem j6w {s:List Rw} {x:Rw} (h:s.length=500):z7y 500 s x=(s,false):=if_pos h
theorem j6x {s:List Rw} {x:Rw} (h:¬s.length=500):z7y 500 s x=(s++[x],true):=if_neg h
def capG (Ψ:Fz) (s:List Rw) (_:Bool) (z:Value×List Value):Prop:=Chunks (RRw Ψ) 4 z.2 s/\s.length<=500
theorem capG.mono {Ψ Ψ':Fz} {s:List Rw} {b:Bool} {z:Value×List Value} (h:capG Ψ s b z) (hl:Ψ.Le Ψ'):capG Ψ' s b z:=⟨h.1.mono fun _ _ h=>RRw.mono _ _ _ _ hl h,h.2⟩
theorem capG.zero {Ψ:Fz} {v:Value}:capG Ψ [] true (v,[]):=⟨rfl,Nat.zero_le _⟩
inductive PlanT where
 | q (i:Nat) (p:PlanT)
 | e3 (i j k:Nat) (p q r:PlanT)
 | e4 (i j k m:Nat) (p q r s:PlanT)
 | pl (p:Plan)
def pA (md:Region.Mode) (ops:Array Oper) (kd:List Nat):PlanT->Array Bool->Bool
 | .pl p,l=>cN md ops kd p l
 | .q i p,l=>(Region.ready md ops l).contains i&&Region.free md ops l i&&yR kd i != 0&&pA md ops kd p (l.setIfInBounds i true)
 | .e3 i j k p q r,l=>Region.ready md ops l==[i,j,k]&&[i,j,k].all (yR kd ·==0)&&pA md ops kd p (l.setIfInBounds i true)&&pA md ops kd q (l.setIfInBounds j true)&&pA md ops kd r (l.setIfInBounds k true)
 | .e4 i j k m p q r s,l=>Region.ready md ops l==[i,j,k,m]&&[i,j,k,m].all (yR kd ·==0)&&pA md ops kd p (l.setIfInBounds i true)&&pA md ops kd q (l.setIfInBounds j true)&&pA md ops kd r (l.setIfInBounds k true)&&pA md ops kd s (l.setIfInBounds m true)
def PlanT.len:PlanT->Nat
 | .pl p=>p.len
 | .q _ p=>p.len+1
 | .e3 _ _ _ p _ _=>p.len+1
 | .e4 _ _ _ _ p _ _ _=>p.len+1
def PlanT.even:PlanT->Bool
 | .pl p=>p.even
 | .q _ p=>p.even
 | .e3 _ _ _ p u r=>p.even&&u.even&&r.even&&p.len==u.len&&p.len==r.len
 | .e4 _ _ _ _ p u r s=>p.even&&u.even&&r.even&&s.even&&p.len==u.len&&p.len==r.len&&p.len==s.len
section
variable {P:Program} {md:Region.Mode} {ops:Array Oper} {B:World->Prop} {kd:List Nat} {Qp:List PanicEntry->World->Prop}
def vK (P:Program) (md:Region.Mode) (ops:Array Oper) (B:World->Prop) (kd:List Nat) (Qp:List PanicEntry->World->Prop) (Q:Act->World->Prop):PlanT->Act->World->Prop
 | .pl p,a,w=>zU P md ops B kd Qp Q p a w
 | .q i p,a,w=>vM P md ops B kd Qp i (vK P md ops B kd Qp Q p) a w
 | .e3 i j k p q r,a,w=>vM P md ops B kd Qp i (vK P md ops B kd Qp Q p) a w/\vM P md ops B kd Qp j (vK P md ops B kd Qp Q q) a w/\vM P md ops B kd Qp k (vK P md ops B kd Qp Q r) a w
 | .e4 i j k m p q r s,a,w=>vM P md ops B kd Qp i (vK P md ops B kd Qp Q p) a w/\vM P md ops B kd Qp j (vK P md ops B kd Qp Q q) a w/\vM P md ops B kd Qp k (vK P md ops B kd Qp Q r) a w/\vM P md ops B kd Qp m (vK P md ops B kd Qp Q s) a w
theorem jV {Q:Act->World->Prop} (O:Region.noSelect ops=true):∀(p:PlanT) (listed:Array Bool) (a:Act) (w:World),p.even=true->pA md ops kd p listed=true ->
  vK P md ops B kd Qp Q p a w->z6j P md ops B kd Qp Q p.len listed a w
 | .pl p,l,a,w,b,c,h=>xM O p l a w b c h
 | .q i p,l,a,w,b,c,h=>by
  simp only [pA,baQ,List.contains_iff_mem,bne_iff_ne,ne_eq] at c
  obtain ⟨⟨⟨e,H⟩,D⟩,c⟩:=c
  obtain ⟨_,o,u,_⟩:=mem_ready.1 e
  unfold vK vM at h
  simp only [u] at h
  by_cases y:Region.wanted o (yielded ops a.tmps)=true
  ·rw [if_pos y,if_neg D] at h
   obtain ⟨v,n,t⟩:=h
   exact nG u (Region.noSelect_spec O) D _ _ _ _ (Region.free_spec u H) e (.inl ⟨y,n⟩) (jV O p _ _ _ b c t)
  ·rw [if_neg y] at h
   exact nG u (Region.noSelect_spec O) D _ _ _ _ (Region.free_spec u H) e (.inr ⟨by simpa using y,rfl⟩) (jV O p _ _ _ b c h)
 | .e3 i j k p q r,l,a,w,b,c,h=>by
  simp only [pA,baQ,beq_iff_eq] at c
  obtain ⟨⟨⟨⟨e,_⟩,c⟩,hq⟩,f⟩:=c
  simp only [PlanT.even,baQ,beq_iff_eq] at b
  obtain ⟨⟨⟨⟨z,e2⟩,e3⟩,F⟩,G⟩:=b
  obtain ⟨n,t,C⟩:=h
  simp only [PlanT.len,z6j]
  refine ⟨fun A=>(by rw [A] at e;cases e),fun x g=>?_⟩
  rw [e] at g
  simp only [List.mem_cons,List.not_mem_nil,or_false] at g
  rcases g with rfl | rfl | rfl
  ·exact kG (fun a' w' _ d=>jV O p _ _ _ z c d) n
  ·exact kG (fun a' w' _ d=>by rw [F];exact jV O q _ _ _ e2 hq d) t
  ·exact kG (fun a' w' _ d=>by rw [G];exact jV O r _ _ _ e3 f d) C
 | .e4 i j k m p q r s,l,a,w,b,c,h=>by
  simp only [pA,baQ,beq_iff_eq] at c
  obtain ⟨⟨⟨⟨⟨e,_⟩,c⟩,hq⟩,f⟩,E⟩:=c
  simp only [PlanT.even,baQ,beq_iff_eq] at b
  obtain ⟨⟨⟨⟨⟨⟨z,e2⟩,e3⟩,e4⟩,F⟩,G⟩,K⟩:=b
  obtain ⟨n,t,C,I⟩:=h
  simp only [PlanT.len,z6j]
  refine ⟨fun A=>(by rw [A] at e;cases e),fun x g=>?_⟩
  rw [e] at g
  simp only [List.mem_cons,List.not_mem_nil,or_false] at g
  rcases g with rfl | rfl | rfl | rfl
  ·exact kG (fun a' w' _ d=>jV O p _ _ _ z c d) n
  ·exact kG (fun a' w' _ d=>by rw [F];exact jV O q _ _ _ e2 hq d) t
  ·exact kG (fun a' w' _ d=>by rw [G];exact jV O r _ _ _ e3 f d) C
  ·exact kG (fun a' w' _ d=>by rw [K];exact jV O s _ _ _ e4 E d) I
def planBT (ops:Array Oper) (kd:List Nat) (p:PlanT):Bool:=Region.noSelect ops&&p.even&&p.len==ops.size&&pA .any ops kd p (Array.replicate ops.size false)
section
variable {n:Nat} {E:List (Nat×Value)} {D:List Deferred} {a:Act} {Φ:Fz} {K:List Res} {w:World}
theorem y8s {id:Nat} {l:List Oper} {Q:Exit->Act->World->Prop} (kd:List Nat) (p:PlanT) (K':List Res) (J:EnvR n E D a) (N:Mem Φ K w) (j:P.follows .mixedOrders=true) (e:planBT l.toArray kd p=true) (f:∀r∈K',r∈K)
  (h:∀w,Mem Φ K w->vK P .any l.toArray (Sees Φ K') kd (fun c w=>∀a,a.defers=D->Q (.panic c) a w) (Q .normal) p a w):(Code.region id l.toArray true).wp P Q a w:=by
 have hm':=N.drew
 simp only [planBT,baQ,beq_iff_eq] at e
 obtain ⟨⟨⟨O,b⟩,hl⟩,d⟩:=e
 refine (wpIn_wide (n:=3)).1 (wpIn_region_any j (kI (r:=none) (Inv:=fun a=>a.defers=D) (kd:=kd) (B:=Sees Φ K') (Qp:=fun c w=>∀a,a.defers=D->Q (.panic c) a w) (Q:=Q .normal) (fun h=>absurd rfl h) (fun i o a v _ J=>by cases k:o.dst <;> exact J) (fun _ _ h=>h) (fun c a w J h=>h a J) _ _ _ _ J.defs (fun _=>⟨hm'.fz,fun r g=>hm'.own r (f r g)⟩) ?_))
 have:=jV O p _ _ _ b d (h _ hm')
 rw [hl] at this
 exact this
variable {Q:Act->World->Prop} {d:Nat} {v:Value} {op:Op} {ty:TypeId} {pos:String} {aft:Array Edge} {i j k m:Nat} {p q r s:PlanT} {L:Act->World->Prop}
theorem q5t (J:EnvR n E D a) (hi:ops[i]? = some ⟨some d,op,ty,pos,aft,none⟩) (b:yR kd i=2) (e:∀w,B w->Ok P a op ty w v) (c:Nat.blt d n=true)
  (k:∀a,EnvR n ((d,v)::E) D a->L a w):vM P .any ops B kd Qp i L a w:=by
 unfold vM
 simp only [hi]
 rw [if_pos (mA rfl _),if_neg (by rw [b];decide)]
 exact ⟨v,fun w f=>e w (f b) _ _ _ _,k _ (J.put c)⟩
theorem t_q (h:vM P .any ops B kd Qp i (vK P .any ops B kd Qp Q p) a w):vK P .any ops B kd Qp Q (.q i p) a w:=h
theorem t_pl {p:Plan} (h:zU P .any ops B kd Qp Q p a w):vK P .any ops B kd Qp Q (.pl p) a w:=h
theorem t_e3 (b:vM P .any ops B kd Qp i (vK P .any ops B kd Qp Q p) a w) (c:vM P .any ops B kd Qp j (vK P .any ops B kd Qp Q q) a w) (d:vM P .any ops B kd Qp k (vK P .any ops B kd Qp Q r) a w):vK P .any ops B kd Qp Q (.e3 i j k p q r) a w:=⟨b,c,d⟩
end
end
def aF (l:List Int):List Value:=l.map (.int .i64)
theorem jR (l:List Int):(aF l).length=l.length:=by simp [aF]
theorem tT (l:List Int) (x:Int):aF (l++[x])=aF l++[.int .i64 x]:=by simp [aF]
theorem dG {Φ:Fz}:∀(l:List Int),Chunks (RInt Φ) 1 (aF l) l
 | []=>rfl
 | x::l=>⟨[.int .i64 x],aF l,rfl,rfl,rfl,dG l⟩
section
variable {R:Option (List TE×TE)} {up:List TE} {e:TE} {path:List Int} {i j:Nat} {v:Int}
theorem z1g (h:path[i]? = some v):yJ up e (path.drop i)=(gN e v).bind fun y=>yJ (up++[e]) y (path.drop (i+1)):=by rw [yI h,yJ]
theorem j1m {a:TA} (c:R=yJ up e (path.drop i)) (f:path[i]? = some v) (g:v=(j:Int)) (d:e.kind=7) (b:e.arms[j]? = some a):R=yJ (up++[e]) a.body (path.drop (i+1)):=by
 have h:j < e.arms.length:=(List.getElem?_eq_some_iff.1 b).1
 rw [c,z1g f,g,gN,if_neg (by omega),if_pos ⟨d,by omega⟩,Int.toNat_natCast,b];rfl
theorem z7e {b:TE} (a:R=yJ up e (path.drop i)) (d:path[i]? = some v) (f:v=(j:Int)) (c:¬(e.kind=7/\v < (e.arms.length:Int))) (hb:e.body[j]? = some b):R=yJ (up++[e]) b (path.drop (i+1)):=by
 have g:j < e.body.length:=(List.getElem?_eq_some_iff.1 hb).1
 rw [a,z1g d,gN,if_neg (by omega),if_neg c,f,if_pos (by omega),Int.toNat_natCast,hb];rfl
theorem j1o (a:R=yJ up e (path.drop i)) (b:path[i]? = some v) (c:v < 0):R=none:=by
 rw [a,z1g b,gN,if_pos c];rfl
theorem y2k (a:R=yJ up e (path.drop i)) (c:path[i]? = some v) (d:¬v < 0) (b:¬(e.kind=7/\v < (e.arms.length:Int))) (hb:¬v < (e.body.length:Int)):R=none:=by
 rw [a,z1g c,gN,if_neg d,if_neg b,if_neg hb];rfl
theorem j1n (a:R=yJ up e (path.drop i)) (hi:¬i < path.length):R=some (up,e):=by
 rw [a,qE hi,yJ]
theorem j7k {a:TA} (h:up.length+zC e<=20000) (b:e.arms[j]? = some a):(up++[e]).length+zC a.body<=20000:=by
 have:=wG (mgQ b);rw [laQ,List.length_singleton];omega
theorem y3b {b:TE} (h:up.length+zC e<=20000) (hb:e.body[j]? = some b):(up++[e]).length+zC b<=20000:=by
 have:=kD (mgQ hb);rw [laQ,List.length_singleton];omega
end
theorem vU {v:Value} {vs:List Value} (h:[v].all Value.oneCell'=true) (a:vs.all Value.oneCell'=true):(v::vs).all Value.oneCell'=true:=by
 simp only [List.all_cons,List.all_nil,Bool.and_true] at h ⊢;rw [h,a];rfl
abbrev AlgN:={y:Value×Value×Addr // [y.1].all Value.oneCell'=true/\[y.2.1].all Value.oneCell'=true}
section
variable {P:Program} {ops:Array Oper} {B:World->Prop} {kd:List Nat} {Qp:List PanicEntry->World->Prop} {n:Nat} {E:List (Nat×Value)} {D:List Deferred} {a:Act} {w:World} {d i:Nat} {v:Value} {op:Op} {ty:TypeId} {pos:String} {aft:Array Edge} {L:Act->World->Prop}
theorem z6n (J:EnvR n E D a) (hi:ops[i]? = some ⟨some d,op,ty,pos,aft,none⟩) (c:yR kd i=1) (e:∀w,Ok P a op ty w v) (b:Nat.blt d n=true)
  (k:∀a,EnvR n ((d,v)::E) D a->L a w):vM P .any ops B kd Qp i L a w:=by
 unfold vM
 simp only [hi]
 rw [if_pos (mA rfl _),if_neg (by rw [c];decide)]
 exact ⟨v,fun w _=>e w _ _ _ _,k _ (J.put b)⟩
end
theorem Chunks.drop {α:Type} {R:List Value->α->Prop} {k:Nat}:∀{l:List α} {cs:List Value} (i:Nat),Chunks R k cs l->Chunks R k (cs.drop (i * k)) (l.drop i)
 | l,cs,0,h=>by rw [Nat.zero_mul];exact h
 | [],cs,i+1,h=>by
  simp only [Chunks] at h;subst h
  rw [List.drop_nil,List.drop_nil];rfl
 | x::l,cs,i+1,⟨c,rest,b,a,_,d⟩=>by
  have:=Chunks.drop i d
  rw [List.drop_succ_cons,b,Nat.succ_mul,Nat.add_comm,<- List.drop_drop,<- a,List.drop_left]
  rw [a];exact this
theorem Chunks.take {α:Type} {R:List Value->α->Prop} {k:Nat}:∀{l:List α} {cs:List Value} (i:Nat),Chunks R k cs l->Chunks R k (cs.take (i * k)) (l.take i)
 | l,cs,0,h=>by rw [Nat.zero_mul,List.take_zero,List.take_zero];rfl
 | [],cs,i+1,h=>by
  simp only [Chunks] at h;subst h
  rw [List.take_nil,List.take_nil];rfl
 | x::l,cs,i+1,⟨c,rest,b,a,d,e⟩=>by
  rw [List.take_succ_cons]
  refine ⟨c,rest.take (i * k),?_,a,d,Chunks.take i e⟩
  rw [b,List.take_append,List.take_of_length_le (by rw [a,Nat.succ_mul];omega),a,Nat.succ_mul,Nat.add_sub_cancel]
def kA (q:Option Addr) (c lo k:Nat):Option Addr:=if c=lo then q else q.map (·.add (lo * k))
theorem q3z (c lo k:Nat):kA none c lo k=none:=by unfold kA;split <;> rfl
theorem SliceOf.sub {α:Type} {R:Fz->List Value->α->Prop} {Φ:Fz} {k:Nat} {q:Option Addr} {n c:Nat} {xs:List α} (h:SliceOf R Φ k (.slice q n c) xs) (u:0 < k) (B:n<=c) (lo hi:Nat) (z:lo<=hi) (A:hi<=n):SliceOf R Φ k (.slice (kA q c lo k) (hi - lo) (c - lo)) ((xs.drop lo).take (hi - lo)):=by
 obtain ⟨cs,y,hch⟩:=h
 refine ⟨(cs.drop (lo * k)).take ((hi - lo) * k),?_,(hch.drop lo).take (hi - lo)⟩
 have s:=hch.length
 rcases y with ⟨h,t⟩ | ⟨p,m,c',e,hl,N,f⟩
 ·injection h with a e2 e3
  subst a;subst e2;subst e3
  have a:lo=0:=by omega
  have e2:hi=0:=by omega
  subst a;subst e2;subst t
  exact .inl ⟨by rw [q3z],by simp⟩
 ·injection e with a e2 e3
  subst a;subst e2;subst e3
  have d:((cs.drop (lo * k)).take ((hi - lo) * k)).length=(hi - lo) * k:=by
   rw [List.length_take,List.length_drop,hl,<- Nat.sub_mul]
   exact Nat.min_eq_left (Nat.mul_le_mul_right k (by omega))
  have r:∃p',kA (some p) c lo k=some p'/\(c≠lo->p'=p.add (lo * k)):=by
   unfold kA
   split
   ·rename_i i;exact ⟨p,rfl,fun h=>absurd i h⟩
   ·exact ⟨_,rfl,fun _=>rfl⟩
  obtain ⟨p',hp',o⟩:=r
  rw [hp']
  refine .inr ⟨p',hi - lo,c - lo,rfl,d,by omega,fun l=>?_⟩
  have w:lo < hi:=by
   apply Nat.lt_of_not_le;intro i
   apply l
   rw [<- List.length_eq_zero_iff,d,Nat.sub_eq_zero_of_le i,Nat.zero_mul]
  rw [o (by omega)]
  have g:cs≠[]:=fun h=>by
   subst h
   have:(0:Nat) < n * k:=Nat.mul_pos (by omega) u
   rw [<- hl] at this;exact absurd this (Nat.lt_irrefl _)
  refine (f g).sub fun j v b=>?_
  rw [List.getElem?_take] at b
  split at b
  ·rw [List.getElem?_drop] at b;exact b
  ·cases b
section
variable {n:Nat} {E:List (Nat×Value)} {D:List Deferred} {a:Act} {x lo hi:Operand} {t e ty:TypeId} {q:Option Addr} {m c i j k:Nat} {w:World} {P:Program}
theorem oQ (J:EnvR n E D a) (h:ev E x=some (.slice q m c)) (b:ev E lo=some (.int .i64 i)) (g:Under P t (.slice e)) (O:SizeT P e k) (d:i<=m) (f:m<=c) :
  Ok P a (.slice t x (some lo) none none) ty w (.slice (kA q c i k) (m - i) (c - i)):=fun _ _ _ _=>by
 have j:(i:Int)<=(m:Int):=by omega
 have hq:(if c=i then q else q.map (·.add (i * k)))=kA q c i k:=rfl
 simp only [execOp,J.ev h,Option.map_some,Option.map_none,J.ev b,Instr.sliceAt]
 simp [Sem.run_bind,g w,O w,Instr.slice,Instr.sliceBounds,Instr.sliceBound,asIntOf,d,f,Result.andThen,kA,Nat.le_trans d f]
theorem oP (J:EnvR n E D a) (l:ev E x=some (.slice q m c)) (d:ev E lo=some (.int .i64 i)) (b:ev E hi=some (.int .i64 j)) (h:Under P t (.slice e)) (O:SizeT P e k) (f:i<=j) (g:j<=c) :
  Ok P a (.slice t x (some lo) (some hi) none) ty w (.slice (kA q c i k) (j - i) (c - i)):=fun _ _ _ _=>by
 simp only [execOp,J.ev l,Option.map_some,Option.map_none,J.ev d,J.ev b,Instr.sliceAt]
 simp [Sem.run_bind,h w,O w,Instr.slice,Instr.sliceBounds,Instr.sliceBound,asIntOf,f,g,Result.andThen,kA,Nat.le_trans f g]
end
theorem q4q {up:List TE} {e:TE} {v:Int} {p:List Int} {r:List TE×TE} (h:yJ up e (v::p)=some r):∃y,gN e v=some y/\yJ (up++[e]) y p=some r:=by
 rw [yJ] at h;exact Option.bind_eq_some_iff.1 h
theorem x0l {e y:TE} {v:Int} (d:GI e) (h:gN e v=some y) (g:e.kind=7):∃(j:Nat) (a:TA),v=(j:Int)/\e.arms[j]? = some a/\a.body=y:=by
 unfold gN at h
 split at h
 ·cases h
 ·rename_i f
  split at h
  ·obtain ⟨a,b,c⟩:=Option.map_eq_some_iff.1 h
   exact ⟨v.toNat,a,by omega,b,c⟩
  ·split at h
   ·rw [d.ar.last (by omega)] at h;cases h
   ·cases h
theorem j4k {e y:TE} {v:Int} (a:GI e) (h:gN e v=some y) (i:¬e.kind=7):e.body=[y]:=by
 unfold gN at h
 split at h
 ·cases h
 ·rename_i j
  split at h
  ·rename_i g;exact absurd g.1 i
  ·split at h
   ·have hb:e.body≠[]:=fun f=>by rw [f] at h;cases h
    have hl:e.body.length=1:=by
     rcases Int.lt_or_le 0 e.kind with c | c
     ·rcases Int.lt_or_le e.kind 7 with hq | hq
      ·exact a.ar.rest (by omega) (by omega)
      ·exact absurd (a.ar.last (by omega)) hb
     ·exact absurd c (by have:=a.ar.lo;omega)
    obtain ⟨z,d⟩:=List.length_eq_one_iff.1 hl
    rw [d] at h ⊢
    rename_i b
    rw [d] at b
    simp only [lcQ,lnQ] at b
    have:v.toNat=0:=by omega
    rw [this] at h
    cases h;rfl
   ·cases h
theorem x1g {e y:TE} {a:TA} {v:Int} {j:Nat} {p:List Int} (c:e.kind=7) (d:v=(j:Int)) (b:e.arms[j]? = some a):yO e (v::p) y=.mk e.kind e.name e.op e.num e.site e.args (e.arms.set j (.mk a.con a.vars (yO a.body p y))) e.body:=by
 rw [yO,if_pos c,d,Int.toNat_natCast,b]
theorem j4v {e b y:TE} {v:Int} {p:List Int} (a:¬e.kind=7) (hb:e.body=[b]):yO e (v::p) y=.mk e.kind e.name e.op e.num e.site e.args e.arms [yO b p y]:=by
 rw [yO,if_neg a,hb]
theorem j4s {path:List Int} {v:Int} (h:path[0]? = some v):path=v::path.drop 1:=by
 cases path with
 | nil=>cases h
 | cons x l=>cases h;rfl
theorem gd_armI {e:TE} {a:TA} {j:Nat} (h:gdT e) (b:e.arms[j]? = some a):gdT a.body:=hO h (mgQ b)
theorem j9u {e b:TE} {j:Nat} (h:gdT e) (hb:e.body[j]? = some b):gdT b:=nI h (mgQ hb)
theorem SliceOf.from {α:Type} {R:Fz->List Value->α->Prop} {Φ:Fz} {k:Nat} {q:Option Addr} {c:Nat} {xs:List α} (h:SliceOf R Φ k (.slice q xs.length c) xs) (d:0 < k) (b:xs.length<=c) (lo:Nat) (a:lo<=xs.length):SliceOf R Φ k (.slice (kA q c lo k) (xs.length - lo) (c - lo)) (xs.drop lo):=by
 have:=h.sub d b lo xs.length a (Nat.le_refl _)
 rwa [List.take_of_length_le (by rw [List.length_drop];exact Nat.le_refl _)] at this
theorem y2u {q:Option Addr} {n c lo:Nat} (a:z0c (.slice q n c)) (_:lo<=n):n - lo<=c - lo:=by
 have:n<=c:=a
 omega
section
variable {P:Program} {n:Nat} {E:List (Nat×Value)} {D:List Deferred} {a:Act} {Φ:Fz} {K:List Res} {w:World}
variable {Kn:Value->World->Prop} {Qp:List PanicEntry->World->Prop} {dst:Option Tmp} {ty:TypeId} {pos:String} {aft:Array Edge} {g:Option (Nat×Bool)}
theorem z8f (i lo j:Nat) {s x:Operand} {t e:TypeId} {size bytes m c:Nat} {b:Nat} {cs:List Value} (Y:RowT P t e size bytes) (J:EnvR n E D a) (N:Mem Φ K w)
  (O:ev E s=some (.slice (some ⟨b,0,none⟩) lo c)) (hx:ev E x=some (.slice (kA (some ⟨b,0,none⟩) c j size) (m - j) (c - j))) (Z:yV K i=some (.gs (.slice (some ⟨b,0,none⟩) m c) e size cs)) (h1:cs.all Value.oneCell'=true) (f0:lo<=j) (e0:j<=m)
  (k:∀w',Mem Φ (kS K i (.gs (.slice (some ⟨b,0,none⟩) (lo+(m - j)) c) e size (cs.take (lo * size)++cs.drop (j * size)))) w'->Kn (.slice (some ⟨b,0,none⟩) (lo+(m - j)) c) w') :
  Oper.eff P ⟨dst,.call { callee:=.builtin .append,args:=#[s,x],argTypes:=#[t,t] },ty,pos,aft,g⟩ a w Kn Qp:=by
 obtain ⟨inf,z,hi,hz,X,d0,h0⟩:=Y.info
 obtain ⟨n0,B,y⟩:=N.own _ (yS Z)
 rcases y with ⟨y,_⟩ | ⟨b',cap,cur,y,M,hb,U,Q,A,H⟩
 ·cases y
 cases y
 have d:(cs.drop (j * size)).length=(m - j) * size:=by rw [List.length_drop,B,Nat.sub_mul]
 have T:m * size<=cur.size:=by rw [A];exact Nat.mul_le_mul_right _ U
 obtain ⟨p',hp',W⟩:∃p':Addr,kA (some ⟨b,0,none⟩) c j size=some p'/\(c≠j->p'=(⟨b,0,none⟩:Addr).add (j * size)):=by
  unfold kA
  split
  ·rename_i S;exact ⟨_,rfl,fun h=>absurd S h⟩
  ·exact ⟨_,rfl,fun _=>rfl⟩
 rw [hp'] at hx
 have p:∀t u,cs[t]? = some u->w.cell? ⟨b,t,none⟩=some u:=fun t u o=>by
  have I:t < cs.length:=(List.getElem?_eq_some_iff.1 o).1
  rw [<- H,List.getElem?_take] at o
  split at o
  ·simp only [World.cell?,hb]
   rw [Array.getElem?_toList] at o;simpa using o
  ·cases o
 have r:∀t u,(cs.drop (j * size))[t]? = some u->w.cell? (p'.add t)=some u:=fun t u o=>by
  have I:t < (m - j) * size:=by rw [<- d];exact (List.getElem?_eq_some_iff.1 o).1
  have hjm':j < m:=by
   apply Nat.lt_of_not_le;intro S
   rw [Nat.sub_eq_zero_of_le S,Nat.zero_mul] at I;omega
  rw [W (by omega)]
  rw [List.getElem?_drop] at o
  have:=p _ _ o
  rw [Addr.add_lit,Addr.add_lit];simpa using this
 have C:∀v∈cs.drop (j * size),Value.oneCell' v=true:=fun v hv=>List.all_eq_true.1 h1 v (List.mem_of_mem_drop hv)
 have R:=run_firstCells_some (P:=P) (w:=w) size (m - j) p' (m - j) (c - j) _ d r
 have f:lo * size+0+(cs.drop (j * size)).length<=cur.size:=by
  rw [d,Nat.add_zero,<- Nat.add_mul]
  exact Nat.le_trans (Nat.mul_le_mul_right _ (by omega)) T
 have G:=run_storeCells_at P b (lo * size) e (cs.drop (j * size)) 0 cur w hb f C
 rw [Nat.add_zero] at G
 have l:lo+(m - j)<=c:=by omega
 have F:(Builtin.append_ #[t,t] ty #[.slice (some ⟨b,0,none⟩) lo c,.slice (some p') (m - j) (c - j)]).run P w=.ok (.slice (some ⟨b,0,none⟩) (lo+(m - j)) c) (w.setRow b (cur.toList.take (lo * size)++cs.drop (j * size)++cur.toList.drop (lo * size+(cs.drop (j * size)).length)).toArray):=by
  subst X
  simp [Builtin.append_,run_underlying Y.under,sizeOf,typeInfo,hi,Builtin.lenOf,l,R,Addr.add_lit,G]
 unfold Oper.eff
 have h3:(execOp a.eval ⟨dst,.call { callee:=.builtin .append,args:=#[s,x],argTypes:=#[t,t] },ty,pos,aft,g⟩).run P w=.ok (.value (.slice (some ⟨b,0,none⟩) (lo+(m - j)) c)) (w.setRow b (cur.toList.take (lo * size)++cs.drop (j * size)++cur.toList.drop (lo * size+(cs.drop (j * size)).length)).toArray):=by
  simp only [execOp,resolve,invoke,builtin,Sem.run_bind,Sem.run_pure,Result.andThen_ok,List.map_toArray,List.map_cons,List.map_nil,J.ev O,J.ev hx,F]
 rw [h3]
 have q:(cs.take (lo * size)).length=lo * size:=by
  rw [List.length_take,B];exact Nat.min_eq_left (Nat.mul_le_mul_right _ (by omega))
 refine k _ (N.upd Z rfl rfl (fun x hc V=>setRow_other w b x _ (fun e=>V (by simp [Res.foot,Value.ownBlock,e]))) ?_ (.inl rfl))
 refine ⟨lo+(m - j),?_,.inr ⟨b,c,_,rfl,M,setRow_heap w b _ _ e _ hb,l,Q,?_,?_⟩⟩
 ·rw [laQ,q,d,<- Nat.add_mul]
 ·rw [Nat.add_zero] at f
  generalize cs.drop (j * size)=L at f ⊢
  rw [List.size_toArray,laQ,laQ,List.length_take,List.length_drop,Array.length_toList,<- A]
  omega
 ·have I:cur.toList.take (lo * size)=cs.take (lo * size):=by
   rw [<- H,List.take_take,Nat.min_eq_left (Nat.mul_le_mul_right _ (by omega))]
  rw [List.toList_toArray,I,List.take_append_of_le_length (by rw [laQ,q,d,<- Nat.add_mul];exact Nat.le_refl _),List.take_of_length_le (by rw [laQ,q,d,<- Nat.add_mul];exact Nat.le_refl _)]
theorem y3o:∀{K:List Res} {i:Nat} {r:Res},yV K i=some r->kS K i r=K
 | [],_,_,h=>by simp [yV] at h
 | _::_,0,_,h=>by simp only [yV,Option.some.injEq] at h;subst h;rfl
 | x::K,i+1,r,h=>by simp only [kS];rw [y3o (K:=K) (i:=i) h]
theorem z5z (i:Nat) {x:Operand} {t e:TypeId} {size bytes m c c' b:Nat} {cs:List Value} {z:Value} (I:RowT P t e size bytes) (R:Under P t (.slice e)) (J:EnvR n E D a) (N:Mem Φ K w)
  (G:ev E x=some (.slice (kA (some ⟨b,0,none⟩) c m size) 1 c')) (s:yV K i=some (.gs (.slice (some ⟨b,0,none⟩) m c) e size cs)) (y:m+1<=c) (M:∀w,(zeroValue e).run P w=.ok z w) (F:(Builtin.zeroCells z.cells 1).toList.length=size) (C:(Builtin.zeroCells z.cells 1).toList.all Value.oneCell'=true)
  (k:∀w',Mem Φ K w'->Kn (.tuple #[]) w') :
  Oper.eff P ⟨dst,.call { callee:=.builtin .clear,args:=#[x],argTypes:=#[t] },ty,pos,aft,g⟩ a w Kn Qp:=by
 obtain ⟨S,u,h⟩:=N.own _ (yS s)
 rcases h with ⟨h,_⟩ | ⟨b',cap,cur,h,q,hb,j,r,f,B⟩
 ·cases h
 cases h
 have hq:kA (some (⟨b,0,none⟩:Addr)) c m size=some ⟨b,m * size,none⟩:=by
  unfold kA;rw [if_neg (by omega)];simp [Addr.add_lit]
 rw [hq] at G
 have d:m * size+0+(Builtin.zeroCells z.cells 1).toList.length<=cur.size:=by
  rw [F,Nat.add_zero,<- Nat.succ_mul,f];exact Nat.mul_le_mul_right _ y
 have p:=run_storeCells_at P b (m * size) e (Builtin.zeroCells z.cells 1).toList 0 cur w hb d (fun v L=>List.all_eq_true.1 C v L)
 rw [Nat.add_zero] at p
 have l:(Builtin.clear_ #[t] ty #[.slice (some ⟨b,m * size,none⟩) 1 c']).run P w=.ok (.tuple #[]) (w.setRow b (cur.toList.take (m * size)++(Builtin.zeroCells z.cells 1).toList++cur.toList.drop (m * size+(Builtin.zeroCells z.cells 1).toList.length)).toArray):=by
  simp [Builtin.clear_,Sem.run_bind,run_underlying I.under,M w,p,Result.andThen]
 unfold Oper.eff
 have H:(execOp a.eval ⟨dst,.call { callee:=.builtin .clear,args:=#[x],argTypes:=#[t] },ty,pos,aft,g⟩).run P w=.ok (.value (.tuple #[])) (w.setRow b (cur.toList.take (m * size)++(Builtin.zeroCells z.cells 1).toList++cur.toList.drop (m * size+(Builtin.zeroCells z.cells 1).toList.length)).toArray):=by
  simp only [execOp,resolve,invoke,builtin,Sem.run_bind,Sem.run_pure,Result.andThen_ok,List.map_toArray,List.map_cons,List.map_nil,J.ev G,l]
 rw [H]
 have o:kS K i (.gs (.slice (some ⟨b,0,none⟩) m c) e size cs)=K:=y3o s
 refine k _ (o▸N.upd s rfl rfl (fun x Q A=>setRow_other w b x _ (fun e=>A (by simp [Res.foot,Value.ownBlock,e]))) ?_ (.inl rfl))
 refine ⟨m,u,.inr ⟨b,c,_,rfl,q,setRow_heap w b _ _ e _ hb,j,r,?_,?_⟩⟩
 ·rw [List.size_toArray,laQ,laQ,List.length_take,List.length_drop,Array.length_toList,<- f]
  rw [Nat.add_zero] at d;omega
 ·rw [List.toList_toArray,List.append_assoc,List.take_append_of_le_length (by rw [List.length_take,Array.length_toList,f];exact Nat.le_min.2 ⟨Nat.le_refl _,Nat.mul_le_mul_right _ j⟩),List.take_take,Nat.min_self,B]
end
section
variable {n:Nat} {E:List (Nat×Value)} {D:List Deferred} {a:Act} {x lo hi mx:Operand} {t e ty:TypeId} {q:Option Addr} {m c i j k:Nat} {w:World} {P:Program}
theorem q4m (J:EnvR n E D a) (g:ev E x=some (.slice q m c)) (b:ev E hi=some (.int .i64 i)) (f:Under P t (.slice e)) (O:SizeT P e k) (d:i<=c):Ok P a (.slice t x none (some hi) none) ty w (.slice q i c):=fun _ _ _ _=>by
 simp only [execOp,J.ev g,Option.map_some,Option.map_none,J.ev b,Instr.sliceAt]
 simp [Sem.run_bind,f w,O w,Instr.slice,Instr.sliceBounds,Instr.sliceBound,asIntOf,d,Result.andThen,Addr.add]
theorem j5o (J:EnvR n E D a) (p:ev E x=some (.slice q m c)) (d:ev E lo=some (.int .i64 i)) (b:ev E hi=some (.int .i64 j)) (f:ev E mx=some (.int .i64 m)) (o:Under P t (.slice e)) (O:SizeT P e k) (g:i<=j) (h:j<=m) (l:m<=c) :
  Ok P a (.slice t x (some lo) (some hi) (some mx)) ty w (.slice (kA q m i k) (j - i) (m - i)):=fun _ _ _ _=>by
 simp only [execOp,J.ev p,Option.map_some,Option.map_none,J.ev d,J.ev b,J.ev f,Instr.sliceAt]
 simp [Sem.run_bind,o w,O w,Instr.slice,Instr.sliceBounds,Instr.sliceBound,asIntOf,g,h,l,Result.andThen,kA,Nat.le_trans g h]
end
theorem Sees.gsOwn {Φ:Fz} {K:List Res} {w:World} {i:Nat} {v:Value} {T:TypeId} {k m:Nat} {cs:List Value} (O:Sees Φ K w) (h:yV K i=some (.gs v T k cs)) (hl:cs.length=m * k) (g:0 < k) (N:0 < m):∃b c,v=.slice (some ⟨b,0,none⟩) m c/\m<=c/\c<=9223372036854775807:=by
 obtain ⟨l,e,a⟩:=O.own _ (yS h)
 have j:l=m:=Nat.eq_of_mul_eq_mul_right g (e.symm.trans hl)
 subst j
 rcases a with ⟨_,a⟩ | ⟨b,cap,cur,a,_,_,f,d,_,_⟩
 ·omega
 ·exact ⟨b,cap,a,f,d⟩
def funIx (T:Trc) (n:Bs):Option Nat:=T.funs.findIdx? fun f=>decide (f.name=n)
def nA (T:Trc) (n:Bs):Option (List TPar):=if zL T=true then (funIx T n).bind fun i=>(T.funs[i]?).bind fun F=>(dQ T F []).map BS.list else none
def dK (k:Int):Bs:=(⟨#[111]⟩:Bs)++q1m k++⟨#[39,48]⟩
def y6k (k:Int):Bool:=decide (k=1∨k=2∨k=3∨k=6)
def cW (own:List Bs) (num:Int):Nat->TE->Atoms->List TE->Option (TE×Atoms×List TE)
 | 0,_,_,_=>none
 | k+1,b,m,l=>
  if b.kind=8 then some (b,m,l)
  else if y6k b.kind=true/\¬dK (num+(l.length:Int))∈own then
   cW own num k (xT b) (qJ m b.name ⟨dK (num+(l.length:Int)),0⟩) (l++[.mk b.kind (dK (num+(l.length:Int))) b.op b.num b.site b.args b.arms []])
  else none
def mO (y out:TE):TE:=.mk y.kind y.name y.op y.num y.site y.args y.arms [out]
def cJ (ps:List TPar) (zs:List Atom):Atoms:=(ps.zip zs).foldl (fun m p=>qJ m p.1.name p.2) []
def FnS.inline (f:FnS) (x:TE) (num:Int):Option TE :=
 if 0<=num/\num<=99999 then
  (f.prog.funs[gC f.prog x.op]?).bind fun g=>(nA f.prog f.fn.name).bind fun ks=>
   (cW (ks.map TPar.name) num (zC g.body) g.body (cJ g.params x.args) []).bind fun r=>
    (f.put [(x.name,mM r.2.1 (xD r.1 0))] (xT x)).map fun out=>r.2.2.reverse.foldl (fun out y=>mO (zT r.2.1 y) out) out
 else none
def FnS.try6 (f:FnS) (rule:Int) (x:TE) (up:List TE) (path:List Int) (num:Int):Option TE :=
 if rule=6 then (if f.may 6 x up then f.inline x num else none) else f.try5 rule x up path
def jW (T:Trc) (r:Rw):Except Int Trc :=
 if r.rule=6 then
  (if r.fn < 0∨(T.funs.length:Int)<=r.fn then .error 3
  else match z5y T r.fn.toNat with
   | none=>.error 3
   | some f=>match yJ [] f.fn.body r.path with
    | none=>.error 151
    | some (up,x)=>match f.try6 6 x up r.path r.num with
     | none=>.error 150
     | some y=>if zL (jO T r.fn.toNat (yO f.fn.body r.path y))=true then .ok (jO T r.fn.toNat (yO f.fn.body r.path y)) else .error 150)
 else xV T r
theorem y0n {own:List Bs} {num:Int}:∀(k:Nat) {b:TE} {m:Atoms} {l:List TE} {r:TE×Atoms×List TE},cW own num k b m l=some r->∀s,(∃y∈r.2.2,s∈yB y)->s∈yB b∨∃y∈l,s∈yB y
 | 0,_,_,_,_,h,_,_=>by cases h
 | k+1,b,m,l,r,h,s,O=>by
  rw [cW] at h
  split at h
  ·cases h;exact .inr O
  ·split at h
   ·rcases y0n k h s O with a | ⟨y,c,a⟩
    ·exact .inl (nB s a)
    ·rcases List.mem_append.1 c with c | c
     ·exact .inr ⟨y,c,a⟩
     ·rw [List.mem_singleton] at c;subst c
      refine .inl ?_
      rw [pY] at a ⊢
      simp only [TE.site,TE.arms,TE.body,sitesTs,List.append_nil] at a
      rcases List.mem_append.1 a with a | a
      ·exact List.mem_append_left _ a
      ·exact List.mem_append_right _ (List.mem_append_left _ a)
   ·cases h
theorem j5d {y out:TE} {s:Int} (h:s∈yB (mO y out)):s∈yB y∨s∈yB out:=by
 rw [mO,pY] at h
 simp only [TE.site,TE.arms,TE.body,sitesTs,List.append_nil] at h
 rw [pY]
 rcases List.mem_append.1 h with h | h
 ·exact .inl (List.mem_append_left _ h)
 ·rcases List.mem_append.1 h with h | h
  ·exact .inl (List.mem_append_right _ (List.mem_append_left _ h))
  ·exact .inr h
theorem z5l {m:Atoms} {s:Int}:∀(l:List TE) (out:TE),s∈yB (l.foldl (fun out y=>mO (zT m y) out) out)->s∈yB out∨∃y∈l,s∈yB y
 | [],_,h=>.inl h
 | y::l,out,h=>by
  rw [List.foldl_cons] at h
  rcases z5l l _ h with h | ⟨z,a,h⟩
  ·rcases j5d h with h | h
   ·rw [oJ] at h;exact .inr ⟨y,msQ,h⟩
   ·exact .inl h
  ·exact .inr ⟨z,mcQ _ a,h⟩
theorem y9b {f:FnS} {x y:TE} {num:Int} (h:f.inline x num=some y):∀s∈yB y,s∈yB x∨∃g∈f.prog.funs,s∈yB g.body:=fun s O=>by
 unfold FnS.inline at h
 split at h
 ·obtain ⟨g,c,h⟩:=Option.bind_eq_some_iff.1 h
  obtain ⟨ks,_,h⟩:=Option.bind_eq_some_iff.1 h
  obtain ⟨r,e,h⟩:=Option.bind_eq_some_iff.1 h
  obtain ⟨out,d,rfl⟩:=Option.map_eq_some_iff.1 h
  rcases z5l _ _ O with a | ⟨z,i,a⟩
  ·rw [gO d] at a;exact .inl (nB s a)
  ·rcases y0n _ e s ⟨z,List.mem_reverse.1 i,a⟩ with b | ⟨_,b,_⟩
   ·exact .inr ⟨g,mgQ c,b⟩
   ·cases b
 ·cases h
theorem y9a {T U:Trc} {r:Rw} (h:jW T r=.ok U):∀s∈xB U,s∈xB T:=fun s O=>by
 unfold jW at h
 split at h
 ·obtain ⟨g,a,c⟩:=List.mem_flatMap.1 O
  split at h
  ·cases h
  split at h
  ·cases h
  rename_i f d
  split at h
  ·cases h
  rename_i up x e
  split at h
  ·cases h
  rename_i y b
  split at h
  ·cases h
   unfold z5y at d
   obtain ⟨q,hq,rfl⟩:=Option.map_eq_some_iff.1 d
   unfold jO at a
   rw [hq] at a
   simp only at a
   rcases List.mem_or_eq_of_mem_set a with a | rfl
   ·exact List.mem_flatMap.2 ⟨g,a,c⟩
   ·rcases oI _ _ s c with h | h
    ·exact List.mem_flatMap.2 ⟨q,mgQ hq,h⟩
    ·unfold FnS.try6 at b
     rw [if_pos rfl] at b
     split at b
     ·rcases y9b b s h with h | ⟨g,a,h⟩
      ·exact List.mem_flatMap.2 ⟨q,mgQ hq,tC e s h⟩
      ·exact List.mem_flatMap.2 ⟨g,a,h⟩
     ·cases b
  ·cases h
 ·exact z5k h s O
theorem vE {T:Trc} {r:Rw} (h:r.rule≠6):jW T r=xV T r:=if_neg h
theorem q3t (e:TE):∀{deep n m:Nat},kM e deep n=some m->m=n+zC e/\m<=20000:=by
 refine wV (C:=fun e=>∀{deep n m:Nat},kM e deep n=some m->m=n+zC e/\m<=20000) (fun e s hb deep n m h=>?_) e
 have q:∀(l:List TE),(∀x∈l,∀{deep n m:Nat},kM x deep n=some m->m=n+zC x/\m<=20000)->∀{deep n m:Nat},n<=20000->sizeTs l deep n=some m->m=n+weightTs l/\m<=20000:=by
  intro l
  induction l with
  | nil=>intro _ deep n m i h;rw [sizeTs] at h;cases h;exact ⟨rfl,i⟩
  | cons x l p=>
   intro j deep n m i h
   rw [sizeTs] at h
   obtain ⟨k,a,b⟩:=Option.bind_eq_some_iff.1 h
   obtain ⟨c,d⟩:=j x (msQ ..) a
   obtain ⟨f,g⟩:=p (fun y o=>j y (mcQ _ o)) d b
   exact ⟨by rw [f,c,weightTs];omega,g⟩
 have a:∀(l:List TA),(∀x∈l,∀{deep n m:Nat},kM x.body deep n=some m->m=n+zC x.body/\m<=20000)->∀{deep n m:Nat},n<=20000->sizeTa l deep n=some m->m=n+weightTa l/\m<=20000:=by
  intro l
  induction l with
  | nil=>intro _ deep n m i h;rw [sizeTa] at h;cases h;exact ⟨rfl,i⟩
  | cons x l p=>
   intro j deep n m i h
   rw [tD] at h
   obtain ⟨k,a,b⟩:=Option.bind_eq_some_iff.1 h
   obtain ⟨c,d⟩:=j x (msQ ..) a
   obtain ⟨f,g⟩:=p (fun y o=>j y (mcQ _ o)) d b
   refine ⟨?_,g⟩
   cases x;rw [f,c,weightTa];simp only [TA.body];omega
 rw [z2z] at h
 split at h
 ·rename_i t
  obtain ⟨k,b,c⟩:=Option.bind_eq_some_iff.1 h
  obtain ⟨d,f⟩:=q e.body hb t.1 b
  obtain ⟨g,r⟩:=a e.arms s f c
  exact ⟨by rw [g,d,xI e];omega,r⟩
 ·cases h
theorem z3a:∀(l:List TFn) {n m:Nat},n<=20000->nC l n=some m->m=n+(l.map fun f=>zC f.body).sum/\m<=20000
 | [],n,m,a,h=>by rw [nC] at h;cases h;exact ⟨rfl,a⟩
 | f::l,n,m,a,h=>by
  rw [nC] at h
  obtain ⟨k,b,c⟩:=Option.bind_eq_some_iff.1 h
  obtain ⟨d,e⟩:=q3t f.body b
  obtain ⟨g,i⟩:=z3a l e c
  exact ⟨by rw [g,d,List.map_cons,List.sum_cons];omega,i⟩
theorem j2w {T:Trc} (h:zL T=true):FitP T:=by
 simp only [zL,baQ,decide_eq_true_eq] at h
 obtain ⟨n,a⟩:=Option.isSome_iff_exists.1 h.1.1.2
 obtain ⟨b,c⟩:=z3a T.funs (by omega) a
 unfold FitP vJ;omega
theorem j3x {T:Trc} {chg:Bool} {e:TE} {s z:BS} (l:∀c∈T.cons,c.fields.length<=16) (m:∀f∈T.funs,f.params.length<=16) (h:qZ T chg e s=some z) :
  e.args.length<=1000/\(e.kind=1->gF e.op=true)/\((e.kind=3∨e.kind=4∨e.kind=10)->∃f,T.funs.find? (fun f=>decide (f.name=e.op))=some f/\e.args.length=f.params.length):=by
 have a:∀{c:Bool},s.call T e c=true->∃f,T.funs.find? (fun f=>decide (f.name=e.op))=some f/\e.args.length=f.params.length:=fun {c} hq=>by
  unfold BS.call at hq
  split at hq
  ·rename_i f k
   simp only [baQ] at hq
   exact ⟨f,k,by have:=xF hq.2;rw [List.length_map] at this;exact this⟩
  ·cases hq
 have b:∀{c:Bool},s.call T e c=true->e.args.length<=1000:=fun hq=>by
  obtain ⟨f,g,n⟩:=a hq
  have:=m f (List.mem_of_find?_eq_some g);omega
 unfold qZ at h
 split at h
 ·split at h
  ·rename_i q
   simp only [baQ] at q
   have:=xF q.2
   exact ⟨by rw [this];simp,fun _=>q.1.2,fun d=>by omega⟩
  ·cases h
 split at h
 ·split at h
  ·split at h
   ·rename_i c j
    split at h
    ·rename_i q
     have g:=xF q
     obtain ⟨i,_,hi⟩:=Option.bind_eq_some_iff.1 j
     have:=l c (mgQ hi)
     exact ⟨by omega,fun _=>by omega,fun d=>by omega⟩
    ·cases h
   ·cases h
  ·cases h
 split at h
 ·split at h
  ·rename_i q
   simp only [baQ] at q
   exact ⟨b q.2,fun _=>by omega,fun _=>a q.2⟩
  ·cases h
 split at h
 ·split at h
  ·rename_i q
   simp only [baQ] at q
   exact ⟨b q.2,fun _=>by omega,fun _=>a q.2⟩
  ·cases h
 split at h
 ·split at h
  ·rename_i q
   simp only [baQ] at q
   have:=xF q.2
   exact ⟨by rw [this];simp,fun _=>by omega,fun d=>by omega⟩
  ·cases h
 split at h
 ·split at h
  ·rename_i q
   simp only [baQ] at q
   have g:=q.1.1
   simp only [zB,baQ,decide_eq_true_eq,Bool.or_eq_true,Bool.false_eq_true,false_or] at g
   exact ⟨by omega,fun _=>by omega,fun d=>by omega⟩
  ·cases h
 split at h
 ·split at h
  ·rename_i q
   simp only [baQ] at q
   have:=xF q.2
   exact ⟨by rw [this];simp,fun _=>by omega,fun d=>by omega⟩
  ·cases h
 split at h
 ·split at h
  ·rename_i q
   simp only [baQ] at q
   have:=xF q.2
   exact ⟨by rw [this];simp,fun _=>by omega,fun d=>by omega⟩
  ·cases h
 split at h
 ·split at h
  ·rename_i q
   simp only [baQ] at q
   exact ⟨b q.2,fun _=>by omega,fun _=>a q.2⟩
  ·cases h
 ·cases h
def q8n (T:Trc) (e:TE):Prop:=(e.kind=3∨e.kind=4∨e.kind=10)->∃f,T.funs.find? (fun f=>decide (f.name=e.op))=some f/\e.args.length=f.params.length
mutual
def gcT (T:Trc):TE->Prop
 | .mk k nm op num site args arms body=>(GI (.mk k nm op num site args arms body)/\q8n T (.mk k nm op num site args arms body))/\gcTa T arms/\gcTs T body
def gcTs (T:Trc):List TE->Prop
 | []=>True
 | x::xs=>gcT T x/\gcTs T xs
def gcTa (T:Trc):List TA->Prop
 | []=>True
 | .mk _ _ b::xs=>gcT T b/\gcTa T xs
end
theorem gcT_eq (T:Trc) (e:TE):gcT T e↔(GI e/\q8n T e)/\gcTa T e.arms/\gcTs T e.body:=by cases e;exact Iff.rfl
theorem gcTs_iff {T:Trc}:∀{l:List TE},gcTs T l↔∀x∈l,gcT T x
 | []=>by simp [gcTs]
 | x::l=>by rw [gcTs,gcTs_iff (l:=l)];simp
theorem gcTa_iff {T:Trc}:∀{l:List TA},gcTa T l↔∀x∈l,gcT T x.body
 | []=>by simp [gcTa]
 | .mk c vs b::l=>by rw [gcTa,gcTa_iff (l:=l)];simp [TA.body]
theorem gc_gd {T:Trc} {e:TE}:gcT T e->gdT e:=by
 refine wV (C:=fun e=>gcT T e->gdT e) (fun e d hb h=>?_) e
 have c:=(gcT_eq T e).1 h
 exact q1d c.1.1 (fun a b=>d a b (gcTa_iff.1 c.2.1 a b)) (fun x b=>hb x b (gcTs_iff.1 c.2.2 x b))
theorem j9t {T:Trc} {e:TE}:gcT T e->∀{p:List Int} {up:List TE} {y:Fnd},y∈zE p up e->q8n T y.x:=by
 refine wV (C:=fun e=>gcT T e->∀{p:List Int} {up:List TE} {y:Fnd},y∈zE p up e->q8n T y.x) (fun e f hb g p up y h=>?_) e
 have c:=(gcT_eq T e).1 g
 rcases wI h with rfl | ⟨j,a,b,d⟩ | ⟨j,x,b,d⟩
 ·exact c.1.2
 ·exact f a (mgQ b) (gcTa_iff.1 c.2.1 a (mgQ b)) d
 ·exact hb x (mgQ b) (gcTs_iff.1 c.2.2 x (mgQ b)) d
theorem y9p {T:Trc} {chg:Bool} {first:Nat} {outer:List (Bs×Int)} (f:∀c∈T.cons,c.fields.length<=16):∀{l:List TA} {i:Nat} {s z:BS},armsT T chg first outer i l s=some z->∀a∈l,a.vars.length<=1000
 | [],_,_,_,_,a,e=>by cases e
 | .mk c vs b::xs,i,s,z,h,a,e=>by
  rw [armsT] at h
  split at h
  ·rename_i q
   obtain ⟨s1,_,h⟩:=Option.bind_eq_some_iff.1 h
   obtain ⟨o,m,g⟩:=Option.bind_eq_some_iff.1 h
   rcases List.mem_cons.1 e with rfl | e
   ·unfold uH at q
    split at q
    ·rename_i k d n j
     simp only [baQ,decide_eq_true_eq] at q
     have:=f d (mgQ j)
     have:=q.2
     simp only [TA.vars] at this ⊢;omega
    ·cases q
   ·exact y9p f g a e
  ·cases h
mutual
theorem y5w {T:Trc} {chg:Bool} (g:∀c∈T.cons,c.fields.length<=16) (j:∀f∈T.funs,f.params.length<=16):∀{e:TE} {s z:BS},jL T chg e s=some z->gcT T e
 | .mk k nm op num site args arms body,s,z,h=>by
  have m:=((arT_eq _).1 (z6q h)).1
  unfold jL at h
  obtain ⟨s1,d,n⟩:=Option.bind_eq_some_iff.1 h
  have hb:=rest_gc g j n
  split at d
  ·rename_i p
   subst p
   split at d
   ·rename_i q
    simp only [baQ] at q
    have hl:=xF q.2
    cases args with
    | nil=>cases d
    | cons a l=>
     cases arms with
     | nil=>cases d
     | cons b r=>
      obtain ⟨c,vs,bo⟩:=b
      simp only at d
      split at d
      ·cases d
      ·split at d
       ·obtain ⟨u,o,_⟩:=Option.bind_eq_some_iff.1 d
        refine ⟨⟨⟨m,fun (h:(7:Int)=1)=>(by cases h),by show (a::l).length<=1000;rw [hl];simp,y9p g o⟩,fun h=>?_⟩,arms_gc g j o,hb⟩
        simp only [TE.kind] at h;omega
       ·cases d
   ·cases d
  ·rename_i p
   have t:arms=[]:=m.arms p
   obtain ⟨o,v,w⟩:=j3x g j d
   exact ⟨⟨⟨m,v,o,fun a h=>by rw [show TE.arms _=arms from rfl,t] at h;cases h⟩,w⟩,by rw [t];exact trivial,hb⟩
theorem rest_gc {T:Trc} {chg:Bool} {nm:Bs} {mod:Bool} (g:∀c∈T.cons,c.fields.length<=16) (j:∀f∈T.funs,f.params.length<=16):∀{l:List TE} {s z:BS},restT T chg nm mod l s=some z->gcTs T l
 | [],_,_,_=>trivial
 | x::xs,s,z,h=>by
  rw [restT] at h
  obtain ⟨s1,_,h⟩:=Option.bind_eq_some_iff.1 h
  obtain ⟨u,d,n⟩:=Option.bind_eq_some_iff.1 h
  exact ⟨y5w g j d,rest_gc g j n⟩
theorem arms_gc {T:Trc} {chg:Bool} {first:Nat} {outer:List (Bs×Int)} (g:∀c∈T.cons,c.fields.length<=16) (j:∀f∈T.funs,f.params.length<=16):∀{l:List TA} {i:Nat} {s z:BS},armsT T chg first outer i l s=some z->gcTa T l
 | [],_,_,_,_=>trivial
 | .mk c vs b::xs,i,s,z,h=>by
  rw [armsT] at h
  split at h
  ·obtain ⟨s1,_,h⟩:=Option.bind_eq_some_iff.1 h
   obtain ⟨u,d,n⟩:=Option.bind_eq_some_iff.1 h
   exact ⟨y5w g j d,arms_gc g j n⟩
  ·cases h
end
theorem q1f {T:Trc} (h:qL T=true):∀c∈T.cons,c.fields.length<=16:=fun c b=>by
 unfold qL at h
 simp only [baQ,List.all_eq_true] at h
 obtain ⟨i,hi⟩:=List.mem_iff_getElem?.1 b
 have a:=h.1.1.1 i (List.mem_range.2 (List.getElem?_eq_some_iff.1 hi).1)
 rw [hi] at a
 simp only [aJ,baQ,decide_eq_true_eq] at a
 exact a.1.2
theorem q1g {T:Trc} (h:qL T=true):(∀f∈T.funs,f.params.length<=16)/\∀(i j:Nat) (f g:TFn),j < i->T.funs[i]? = some f->T.funs[j]? = some g->g.name≠f.name:=by
 unfold qL at h
 simp only [baQ,List.all_eq_true] at h
 have c:∀(i:Nat) (f:TFn),T.funs[i]? = some f->((!((T.funs.take i).any fun g=>decide (g.name=f.name)))=true/\wY f.name=true)/\f.params.length<=16:=fun i f hi=>by
  have a:=h.1.2 i (List.mem_range.2 (List.getElem?_eq_some_iff.1 hi).1)
  rw [hi] at a
  simpa only [baQ,decide_eq_true_eq] using a
 refine ⟨fun f d=>?_,fun i j f g b hi e k=>?_⟩
 ·obtain ⟨i,hi⟩:=List.mem_iff_getElem?.1 d
  exact (c i f hi).2
 ·have a:=(c i f hi).1.1
  simp only [Bool.not_eq_true',List.any_eq_false,decide_eq_true_eq] at a
  refine a g ?_ k
  exact List.mem_iff_getElem?.2 ⟨j,by rw [List.getElem?_take_of_lt b];exact e⟩
theorem q9q {T:Trc} (b:∀c∈T.cons,c.fields.length<=16) (d:∀f∈T.funs,f.params.length<=16):∀{l:List TFn} {m z:List (Int×Int)},mI T l m=some z->∀f∈l,gcT T f.body
 | [],_,_,_,_,h=>by cases h
 | g::l,m,z,h,f,hq=>by
  rw [mI] at h
  obtain ⟨s,a,e⟩:=Option.bind_eq_some_iff.1 h
  rcases List.mem_cons.1 hq with rfl | hq
  ·unfold dQ at a
   obtain ⟨j,_,i⟩:=Option.bind_eq_some_iff.1 a
   exact y5w b d i
  ·exact q9q b d e f hq
theorem kP {T:Trc} (h:zL T=true):GoodP T:=by
 have a:=j2w h
 have h':=h
 simp only [zL,baQ] at h'
 have o:qL T=true:=h'.1.2
 obtain ⟨z,w⟩:=Option.isSome_iff_exists.1 h'.2
 have s:=q1f o
 obtain ⟨t,p⟩:=q1g o
 have n:=q9q s t w
 refine ⟨a,fun f hq=>gc_gd (n f hq),fun f hq y v u=>?_⟩
 obtain ⟨g,l,r⟩:=j9t (n f hq) v u
 have d:=List.find?_some l
 have m:=List.mem_of_find?_eq_some l
 simp only [decide_eq_true_eq] at d
 refine ⟨⟨g,m,d⟩,fun q e k=>?_⟩
 obtain ⟨i,hi⟩:=List.mem_iff_getElem?.1 m
 obtain ⟨j,c⟩:=List.mem_iff_getElem?.1 e
 have b:q.name=g.name:=by rw [k,d]
 rcases Nat.lt_trichotomy i j with hl | hl | hl
 ·exact absurd b.symm (p j i q g hl c hi)
 ·subst hl;rw [hi] at c;cases c;exact r.symm
 ·exact absurd b (p i j g q hl hi c)
theorem q4h (m:Atoms) (e:TE):zC (zT m e)=zC e:=by
 refine wV (C:=fun e=>zC (zT m e)=zC e) (fun e i hb=>?_) e
 have j:∀(l:List TA),(∀a∈l,zC (zT m a.body)=zC a.body)->weightTa (withTa m l)=weightTa l:=by
  intro l
  induction l with
  | nil=>intro _;rfl
  | cons a l g=>
   intro h
   have d:=h a (msQ ..)
   have n:=g fun x f=>h x (mcQ _ f)
   cases a with
   | mk c vs b=>rw [withTa,weightTa,weightTa,n];simp only [TA.body] at d;rw [d]
 have d:∀(l:List TE),(∀a∈l,zC (zT m a)=zC a)->weightTs (withTs m l)=weightTs l:=by
  intro l
  induction l with
  | nil=>intro _;rfl
  | cons a l g=>
   intro h
   rw [withTs,weightTs,weightTs,h a (msQ ..),g fun x f=>h x (mcQ _ f)]
 cases e with
 | mk k nm op num site args arms body=>
  simp only [TE.arms,TE.body] at i hb
  rw [zT,zC,zC,j arms i,d body hb]
theorem oN {f:FnS} {m:Atoms} {b c:TE} (h:f.put m b=some c):zC c=zC b:=by
 unfold FnS.put at h
 split at h
 ·cases h;exact q4h m b
 ·cases h
theorem dO (x:TE):zC (xT x)<=zC x:=by
 unfold xT
 cases hb:x.body with
 | nil=>exact Nat.le_refl _
 | cons y l=>have:=kD (e:=x) (x:=y) (by rw [hb];exact msQ);show zC y<=_;omega
section
variable {f:FnS} {x y:TE}
theorem q4g (h:f.fold x=some y):zC y<=zC x:=by
 unfold FnS.fold at h
 simp only at h
 split at h
 ·rw [oN h];exact dO x
 ·split at h
  ·split at h
   ·cases h
    rw [xI,xI x];simp only [TE.arms,TE.body,weightTa];omega
   ·cases h
  ·cases h
theorem z5o:∀{l:List TE},f.fuse x l=some y->zC y<=zC x
 | [],h=>by cases h
 | z::l,h=>by
  rw [FnS.fuse] at h
  split at h
  ·rw [oN h];exact dO x
  ·exact z5o h
theorem y1e {c:Bs} {l:List Atom} (h:f.arm x c l=some y):zC y<=zC x:=by
 unfold FnS.arm at h
 obtain ⟨a,b,h⟩:=Option.bind_eq_some_iff.1 h
 have:=wG (List.mem_of_find?_eq_some b)
 rw [oN h];omega
theorem z3g:∀{l:List (TE×Int)},f.known x l=some y->zC y<=zC x
 | [],h=>by cases h
 | (z,i)::l,h=>by
  rw [FnS.known] at h
  split at h
  ·exact y1e h
  ·split at h
   ·obtain ⟨a,_,h⟩:=Option.bind_eq_some_iff.1 h;exact y1e h
   ·exact z3g h
theorem tH:∀{l:List TE},f.forward x l=some y->zC y<=zC x
 | [],h=>by cases h
 | z::l,h=>by
  rw [FnS.forward] at h
  split at h
  ·obtain ⟨g,_,h⟩:=Option.bind_eq_some_iff.1 h
   split at h
   ·split at h
    ·rw [oN h];exact dO x
    ·cases h
   ·cases h
  ·exact tH h
theorem q8e {r:Int} {up:List TE} {p:List Int} (h:f.try5 r x up p=some y):zC y<=zC x:=by
 unfold FnS.try5 at h
 split at h
 ·split at h
  ·exact q4g h
  split at h
  ·cases h;exact dO x
  split at h
  ·exact z5o h
  split at h
  ·exact z3g h
  ·exact tH h
 ·cases h
end
section
variable {f:FnS} {x y:TE}
theorem y6d {m:Atoms} {b c:TE} (hb:gdT b) (h:f.put m b=some c):gdT c:=by
 unfold FnS.put at h
 split at h
 ·cases h;exact gd_with hb
 ·cases h
theorem z6t (a:gdT x):gdT (xT x):=by
 unfold xT
 cases hb:x.body with
 | nil=>exact a
 | cons y l=>exact nI a (by rw [hb];exact msQ)
theorem gd_fold (b:gdT x) (c:1<=x.kind/\x.kind<=6) (h:f.fold x=some y):gdT y:=by
 unfold FnS.fold at h
 simp only at h
 split at h
 ·exact y6d (z6t b) h
 ·split at h
  ·split at h
   ·cases h
    have hi:=nR b
    refine q1d ⟨⟨fun h=>?_,fun h=>?_,fun _ _=>?_,fun h=>?_,fun _=>rfl,?_,?_⟩,fun h=>?_,?_,fun a h=>?_⟩ (fun a h=>?_) (fun z h=>nI b h)
    ·simp only [TE.kind] at h;omega
    ·simp only [TE.kind] at h;omega
    ·exact hi.ar.rest c.1 c.2
    ·simp only [TE.kind] at h;omega
    ·simp only [TE.kind];omega
    ·simp only [TE.kind];omega
    ·simp only [TE.kind] at h;omega
    ·simp [TE.args]
    ·simp [TE.arms] at h
    ·simp [TE.arms] at h
   ·cases h
  ·cases h
theorem q9t (a:gdT x):∀{l:List TE},f.fuse x l=some y->gdT y
 | [],h=>by cases h
 | z::l,h=>by
  rw [FnS.fuse] at h
  split at h
  ·exact y6d (z6t a) h
  ·exact q9t a h
theorem q9s {c:Bs} {l:List Atom} (d:gdT x) (h:f.arm x c l=some y):gdT y:=by
 unfold FnS.arm at h
 obtain ⟨a,b,h⟩:=Option.bind_eq_some_iff.1 h
 exact y6d (hO d (List.mem_of_find?_eq_some b)) h
theorem q1c (b:gdT x):∀{l:List (TE×Int)},f.known x l=some y->gdT y
 | [],h=>by cases h
 | (z,i)::l,h=>by
  rw [FnS.known] at h
  split at h
  ·exact q9s b h
  ·split at h
   ·obtain ⟨a,_,h⟩:=Option.bind_eq_some_iff.1 h;exact q9s b h
   ·exact q1c b h
theorem z8n (a:gdT x):∀{l:List TE},f.forward x l=some y->gdT y
 | [],h=>by cases h
 | z::l,h=>by
  rw [FnS.forward] at h
  split at h
  ·obtain ⟨g,_,h⟩:=Option.bind_eq_some_iff.1 h
   split at h
   ·split at h
    ·exact y6d (z6t a) h
    ·cases h
   ·cases h
  ·exact z8n a h
theorem gd_try {r:Int} {up:List TE} {p:List Int} (a:gdT x) (h:f.try5 r x up p=some y):gdT y:=by
 unfold FnS.try5 at h
 split at h
 ·rename_i N
  split at h
  ·rename_i b
   refine gd_fold a ?_ h
   unfold FnS.may at N
   rw [if_pos b] at N
   have:=(of_decide_eq_true N).1;omega
  split at h
  ·cases h;exact z6t a
  split at h
  ·exact q9t a h
  split at h
  ·exact q1c a h
  ·exact z8n a h
 ·cases h
end
theorem y9d {l:List TA} {j:Nat} {a b:TA} (h:l[j]? = some a) (f:zC b.body<=zC a.body):weightTa (l.set j b)<=weightTa l:=by
 induction l generalizing j with
 | nil=>simp at h
 | cons c l e=>
  have d:∀(c:TA) (l:List TA),weightTa (c::l)=zC c.body+weightTa l:=fun c l=>by cases c;rfl
  cases j with
  | zero=>
   rw [List.getElem?_cons_zero] at h;cases h
   rw [List.set_cons_zero,d,d];omega
  | succ j=>
   rw [List.getElem?_cons_succ] at h
   rw [List.set_cons_succ,d,d]
   have:=e h;omega
theorem q9u {e x:TE} {i:Int} (c:gdT e) (h:gN e i=some x):gdT x:=by
 obtain ⟨j,_,d⟩:=tV (uW _ (q9r c)) h
 rcases d with ⟨_,a,b,rfl⟩ | ⟨_,b⟩
 ·exact hO c (mgQ b)
 ·exact nI c (mgQ b)
theorem y4f {y:TE} (o:gdT y):∀(p:List Int) {e:TE} {up u:List TE} {x:TE},gdT e->yJ up e p=some (u,x)->zC y<=zC x->gdT (yO e p y)/\zC (yO e p y)<=zC e
 | [],e,up,u,x,d,h,l=>by
  rw [yJ] at h;cases h
  exact ⟨o,l⟩
 | i::p,e,up,u,x,d,h,l=>by
  rw [yJ] at h
  obtain ⟨z,m,q⟩:=Option.bind_eq_some_iff.1 h
  have A:=q9u d m
  obtain ⟨n,r⟩:=y4f o p A q l
  have hi:=nR d
  obtain ⟨j,v,s⟩:=tV (uW _ (q9r d)) m
  subst v
  rw [yO]
  rcases s with ⟨f,a,c,rfl⟩ | ⟨f,c⟩
  ·rw [if_pos f,Int.toNat_natCast,c]
   have hb:e.body=[]:=hi.ar.last (by omega)
   constructor
   ·refine q1d ⟨⟨hi.ar.two,hi.ar.one,hi.ar.rest,hi.ar.last,fun w=>absurd f w,hi.ar.lo,hi.ar.hi⟩,hi.op,hi.na,fun b hb=>?_⟩ (fun b hb=>?_) (fun b hb=>nI d hb)
    ·simp only [TE.arms] at hb
     rcases List.mem_or_eq_of_mem_set hb with hb | rfl
     ·exact hi.nv b hb
     ·exact hi.nv a (mgQ c)
    ·simp only [TE.arms] at hb
     rcases List.mem_or_eq_of_mem_set hb with hb | rfl
     ·exact hO d hb
     ·exact n
   ·rw [xI,xI e]
    have:=y9d (b:=TA.mk a.con a.vars (yO a.body p y)) c (by simp only [TA.body];exact r)
    show 1+weightTa (e.arms.set j (TA.mk a.con a.vars (yO a.body p y)))+weightTs e.body<=1+weightTa e.arms+weightTs e.body
    omega
  ·rw [if_neg f]
   have hl:e.body.length=1:=by
    have t:1<=e.kind:=hi.ar.lo
    by_cases g:e.kind<=6
    ·exact hi.ar.rest t g
    ·have:=hi.ar.last (by omega);rw [this] at c;simp at c
   match hb:e.body with
   | []=>rw [hb] at hl;simp at hl
   | [b]=>
    rw [hb] at c
    have k:j=0:=by have:=(List.getElem?_eq_some_iff.1 c).1;simp at this;exact this
    subst k
    rw [List.getElem?_cons_zero] at c;cases c
    simp only
    constructor
    ·refine q1d ⟨⟨hi.ar.two,hi.ar.one,fun _ _=>rfl,fun g=>?_,hi.ar.arms,hi.ar.lo,hi.ar.hi⟩,hi.op,hi.na,hi.nv⟩ (fun b hb=>hO d hb) (fun b hb=>?_)
     ·have:=hi.ar.last g;rw [this] at hb;cases hb
     ·simp only [TE.body,List.mem_singleton] at hb;subst hb;exact n
    ·rw [xI,xI e,hb]
     simp only [TE.arms,TE.body,weightTs];omega
   | _::_::_=>rw [hb] at hl;simp at hl
def CI (C:Bs->Nat->Prop) (e:TE):Prop:=(e.kind=3∨e.kind=4∨e.kind=10)->C e.op e.args.length
mutual
def clT (C:Bs->Nat->Prop):TE->Prop
 | .mk k nm op num site args arms body=>CI C (.mk k nm op num site args arms body)/\clTa C arms/\clTs C body
def clTs (C:Bs->Nat->Prop):List TE->Prop
 | []=>True
 | x::xs=>clT C x/\clTs C xs
def clTa (C:Bs->Nat->Prop):List TA->Prop
 | []=>True
 | .mk _ _ b::xs=>clT C b/\clTa C xs
end
variable {C:Bs->Nat->Prop}
theorem z0d (e:TE):clT C e↔CI C e/\clTa C e.arms/\clTs C e.body:=by cases e;exact Iff.rfl
theorem clTs_iff:∀{l:List TE},clTs C l↔∀x∈l,clT C x
 | []=>by simp [clTs]
 | x::l=>by rw [clTs,clTs_iff (l:=l)];simp
theorem clTa_iff:∀{l:List TA},clTa C l↔∀x∈l,clT C x.body
 | []=>by simp [clTa]
 | .mk c vs b::l=>by rw [clTa,clTa_iff (l:=l)];simp [TA.body]
theorem hC {e x:TE} (h:clT C e) (a:x∈e.body):clT C x:=clTs_iff.1 ((z0d e).1 h).2.2 x a
theorem dC {e:TE} {a:TA} (h:clT C e) (b:a∈e.arms):clT C a.body:=clTa_iff.1 ((z0d e).1 h).2.1 a b
theorem q0k {e:TE} (b:CI C e) (c:∀a∈e.arms,clT C a.body) (d:∀x∈e.body,clT C x):clT C e:=(z0d e).2 ⟨b,clTa_iff.2 c,clTs_iff.2 d⟩
theorem aQ (e:TE):∀(p:List Int) (up:List TE),clT C e↔∀y∈zE p up e,CI C y.x:=by
 refine wV (C:=fun e=>∀(p:List Int) (up:List TE),clT C e↔∀y∈zE p up e,CI C y.x) (fun e g hb p up=>?_) e
 constructor
 ·intro h y c
  rcases wI c with rfl | ⟨j,a,b,d⟩ | ⟨j,x,b,d⟩
  ·exact ((z0d e).1 h).1
  ·exact (g a (mgQ b) _ _).1 (dC h (mgQ b)) y d
  ·exact (hb x (mgQ b) _ _).1 (hC h (mgQ b)) y d
 ·intro h
  refine q0k (h ⟨p,up,e⟩ (by rw [jK];exact msQ)) (fun a b=>?_) (fun x b=>?_)
  ·obtain ⟨j,f⟩:=List.mem_iff_getElem?.1 b
   refine (g a b (p++[(j:Int)]) (up++[e])).2 fun y c=>h y ?_
   rw [jK];exact mcQ _ (List.mem_append_left _ (mem_belowTa.2 ⟨j,a,f,by rw [Int.zero_add];exact c⟩))
  ·obtain ⟨j,f⟩:=List.mem_iff_getElem?.1 b
   refine (hb x b (p++[(j:Int)]) (up++[e])).2 fun y c=>h y ?_
   rw [jK];exact mcQ _ (List.mem_append_right _ (mem_belowTs.2 ⟨j,x,f,by rw [Int.zero_add];exact c⟩))
theorem cl_with {m:Atoms} {e:TE}:clT C e->clT C (zT m e):=by
 refine wV (C:=fun e=>clT C e->clT C (zT m e)) (fun e d hb c=>?_) e
 rw [y1f]
 refine q0k (fun h=>?_) (fun a h=>?_) (fun x h=>?_)
 ·have:=((z0d e).1 c).1 h
  show C e.op (e.args.map _).length
  rw [List.length_map];exact this
 ·obtain ⟨z,b,rfl⟩:=List.mem_map.1 h
  exact d z b (dC c b)
 ·obtain ⟨z,b,rfl⟩:=List.mem_map.1 h
  exact hb z b (hC c b)
section
variable {f:FnS} {x y:TE}
theorem y5s {m:Atoms} {b c:TE} (hb:clT C b) (h:f.put m b=some c):clT C c:=by
 unfold FnS.put at h
 split at h
 ·cases h;exact cl_with hb
 ·cases h
theorem z6m (a:clT C x):clT C (xT x):=by
 unfold xT
 cases hb:x.body with
 | nil=>exact a
 | cons y l=>exact hC a (by rw [hb];exact msQ)
theorem cl_fold (b:clT C x) (h:f.fold x=some y):clT C y:=by
 unfold FnS.fold at h
 simp only at h
 split at h
 ·exact y5s (z6m b) h
 ·split at h
  ·split at h
   ·cases h
    exact q0k (fun h=>by simp only [TE.kind] at h;omega) (fun a h=>by cases h) (fun z h=>hC b h)
   ·cases h
  ·cases h
theorem q9c (a:clT C x):∀{l:List TE},f.fuse x l=some y->clT C y
 | [],h=>by cases h
 | z::l,h=>by
  rw [FnS.fuse] at h
  split at h
  ·exact y5s (z6m a) h
  ·exact q9c a h
theorem q9b {c:Bs} {l:List Atom} (d:clT C x) (h:f.arm x c l=some y):clT C y:=by
 unfold FnS.arm at h
 obtain ⟨a,b,h⟩:=Option.bind_eq_some_iff.1 h
 exact y5s (dC d (List.mem_of_find?_eq_some b)) h
theorem q0j (b:clT C x):∀{l:List (TE×Int)},f.known x l=some y->clT C y
 | [],h=>by cases h
 | (z,i)::l,h=>by
  rw [FnS.known] at h
  split at h
  ·exact q9b b h
  ·split at h
   ·obtain ⟨a,_,h⟩:=Option.bind_eq_some_iff.1 h;exact q9b b h
   ·exact q0j b h
theorem z8b (a:clT C x):∀{l:List TE},f.forward x l=some y->clT C y
 | [],h=>by cases h
 | z::l,h=>by
  rw [FnS.forward] at h
  split at h
  ·obtain ⟨g,_,h⟩:=Option.bind_eq_some_iff.1 h
   split at h
   ·split at h
    ·exact y5s (z6m a) h
    ·cases h
   ·cases h
  ·exact z8b a h
theorem cl_try {r:Int} {up:List TE} {p:List Int} (a:clT C x) (h:f.try5 r x up p=some y):clT C y:=by
 unfold FnS.try5 at h
 split at h
 ·split at h
  ·exact cl_fold a h
  split at h
  ·cases h;exact z6m a
  split at h
  ·exact q9c a h
  split at h
  ·exact q0j a h
  ·exact z8b a h
 ·cases h
end
theorem y5t {y:TE} (g:clT C y):∀(p:List Int) {e:TE},clT C e->clT C (yO e p y)
 | [],e,_=>g
 | i::p,e,c=>by
  rw [yO]
  split
  ·refine q0k (fun h=>((z0d e).1 c).1 h) (fun b hb=>?_) (fun b hb=>hC c hb)
   replace hb:b∈(match e.arms[i.toNat]? with | some a=>e.arms.set i.toNat (.mk a.con a.vars (yO a.body p y)) | none=>e.arms):=hb
   cases f:e.arms[i.toNat]? with
   | none=>rw [f] at hb;exact dC c hb
   | some a=>
    rw [f] at hb
    rcases List.mem_or_eq_of_mem_set hb with hb | rfl
    ·exact dC c hb
    ·exact y5t g p (dC c (mgQ f))
  ·refine q0k (fun h=>((z0d e).1 c).1 h) (fun b hb=>dC c hb) (fun b hb=>?_)
   replace hb:b∈(match e.body with | b::_=>[yO b p y] | []=>[]):=hb
   match d:e.body with
   | []=>rw [d] at hb;cases hb
   | z::l=>
    rw [d] at hb
    simp only [List.mem_singleton] at hb;subst hb
    exact y5t g p (hC c (by rw [d];exact msQ))
theorem qR {P:Program} {n m:Nat} {r:Option Nat} {E:List (Nat×Value)} {a:Act} {Φ:Fz} {K:List Res} {w:World} {id:Nat} {l:List Oper} {Q:Exit->Act->World->Prop} (kd:List Nat) (p:Plan) (K':List Res) (J:EnvR n E [] a) (N:Mem Φ K w) (y:P.follows .mixedOrders=true) (j:sZ l.toArray kd p=true) (q:∀r∈K',r∈K)
  (t:l.all (fun o=>match o.op with | .defer _=>false | _=>true)=true)
  (h:∀w,Mem Φ K w->zU P .any l.toArray (Sees Φ K') kd (fun c w=>∀a:Act,a.defers=[]->Q (.panic c) a w) (Q .normal) p a w):(Code.region id l.toArray true).wpIn (FO r) m P Q a w:=by
 have hm':=N.drew
 have h:=h _ hm'
 simp only [sZ,baQ,beq_iff_eq] at j
 obtain ⟨⟨⟨O,e⟩,hl⟩,f⟩:=j
 refine wpIn_region_any y (kI (Inv:=fun a=>a.defers=[]) (kd:=kd) (B:=Sees Φ K') (Qp:=fun c w=>∀a:Act,a.defers=[]->Q (.panic c) a w) (Q:=Q .normal) (fun _ i o hi c s=>?_) (fun i o a v hi h=>?_) (fun _ _ h=>h) (fun c a w b h=>h a b) _ _ _ _ J.defs (fun _=>⟨hm'.fz,fun r u=>hm'.own r (q r u)⟩) ?_)
 ·have k:l[i]? = some o:=by simpa using hi
  have g:=List.all_eq_true.1 t o (mgQ k)
  rw [s] at g;cases g
 ·cases b:o.dst with
  | none=>simpa [Act.put,b] using h
  | some d=>simpa [Act.put,b] using h
 ·have:=xM O p _ _ _ e f h
  rw [hl] at this
  exact this
section
variable {P:Program} {n:Nat} {E:List (Nat×Value)} {a:Act} {Φ:Fz} {K:List Res} {fn:Func} {R:Ending->World->Prop}
theorem panX {ds:List Nat} {w:World} {c:List PanicEntry} (f:a.defers=aL ds) (N:Mem Φ (yA ds++K) w) (h:∀w',Mem Φ K w'->R (.panicked c) w'):xP P fn R (.panic c) a w:=by
 show mD P fn a.tmps R a.defers (.panicking c) w
 rw [f]
 refine oA (by intro h;cases h) N fun w' hm'=>?_
 intro fr cs b d g e i
 exact ⟨.panicked c,w',fr,h w' hm',.refl _ _,rfl,b,d,fn,e⟩
theorem Mem.dropL {Φ:Fz} {w:World} {C:List Res}:∀{A:List Res},Mem Φ (A++C) w->Mem Φ C w
 | [],h=>h
 | _::A,h=>Mem.dropL (A:=A) h.tail
theorem oV {ds:List Nat} {w:World} {c:List PanicEntry} (A:List Res) (b:a.defers=aL ds) (N:Mem Φ (A++(yA ds++K)) w) (h:∀w',Mem Φ K w'->R (.panicked c) w'):xP P fn R (.panic c) a w:=panX b N.dropL h
theorem y8v {ds:List Nat} {w:World} {t T b:Nat} {cs:List Value} {T0:TypeId} (J:EnvR n E (aL ds) a) (e:fn.results=#[.cell t T]) (f:get E t=some (.pointer (some ⟨b,0,none⟩))) (d:AggT P T) (c:SizeT P T cs.length)
  (N:Mem Φ (yA ds++(.blk b (ob cs T0)::K)) w) (h:∀w',Mem Φ K w'->R (.returned (.agg cs.toArray)) w'):xP P fn R .ret a w :=
 retX J N fun w' hm'=>⟨_,dT (i:=0) J hm'.toSees e f rfl d c rfl,h _ hm'.tail⟩
end
theorem j7j:(prog.fieldsOf 75).toList=[{ name := "Name",type:=9,offset:=0,embedded:=false,tag := "",pkgPath := "",byteOffset:=0 },{ name := "Num",type:=3,offset:=1,embedded:=false,tag := "",pkgPath := "",byteOffset:=16 }]:=by
 simp [Program.fieldsOf,underlying75]
theorem und75:prog.underlying 75=some (.struct (prog.fieldsOf 75)):=by simp [Program.fieldsOf,underlying75]
theorem stood75:prog.stoodInHeld 75=false:=by kernel_rfl
theorem plain9:prog.plainKey 9=true:=by simp [Program.plainKey,underlying9]
theorem plain3:prog.plainKey 3=true:=by simp [Program.plainKey,underlying3]
theorem guard75:prog.eqGuardType prog.depth 75=false:=by kernel_rfl
theorem q7j (w:World) (a b:Atom):(Op.equal 75 (.agg #[.string a.name,.int .i64 a.num]) (.agg #[.string b.name,.int .i64 b.num])).run prog w=.ok (decide (a=b)) w:=by
 unfold Op.equal
 rw [show Op.maxDepth=(Op.maxDepth - 2+1)+1 from rfl,run_equalIn_struct w _ 75 _ _ und75 stood75,j7j]
 have k:=fun (s t:Bs)=>run_equalIn_string w (Op.maxDepth - 2) 9 s t underlying9
 have g:=fun (i j:Int)=>run_equalIn_int w (Op.maxDepth - 2) 3 .i64 .i64 i j underlying3
 have o:=fun (s:Bs) (i:Int)=>run_part_plain (P:=prog) w plain9 (xs:=#[.string s,.int .i64 i]) (off:=0) (v:=.string s) (by simp)
 have n:=fun (s:Bs) (i:Int)=>run_part_plain (P:=prog) w plain3 (xs:=#[.string s,.int .i64 i]) (off:=1) (v:=.int .i64 i) (by simp)
 have q:∀(s:Bs) (i:Int),(part 9 #[Value.string s,.int .i64 i] 0).run prog w=.ok (.string s) w:=o
 have p:∀(s:Bs) (i:Int),(part 3 #[Value.string s,.int .i64 i] 1).run prog w=.ok (.int .i64 i) w:=n
 simp [Op.eqFields,Sem.run_bind,q,p,k,g,Result.andThen]
 cases a;cases b
 rename_i e l f m
 by_cases c:e=f
 ·by_cases d:l=m
  ·simp [c,d]
  ·simp [c,d]
 ·have:¬ByteArray.toList e=ByteArray.toList f:=fun h=>c (ByteArray.ext (by rw [ByteArray.toList_eq,ByteArray.toList_eq] at h;exact Array.toList_inj.1 h))
  simp [c,this]
section
variable {n:Nat} {E:List (Nat×Value)} {D:List Deferred} {a:Act} {w:World} {ty:TypeId}
theorem gT {t':TypeId} {x y:Operand} {p q:Atom} {b:Bool} (J:EnvR n E D a) (c:ev E x=some (.agg #[.string p.name,.int .i64 p.num])) (d:ev E y=some (.agg #[.string q.name,.int .i64 q.num])) (hb:decide (p=q)=b) :
  Ok prog a (.binOp .eql 75 x y t') ty w (.bool b):=by
 subst hb
 refine jC J c d ?_ ?_
 ·simp [eqGuard,Sem.run_bind,guard75,Result.andThen]
 ·simp only [binOp,Sem.run_bind,q7j,Result.andThen_ok];rfl
end
theorem x1f {Φ:Fz} {K:List Res} {w:World} {b1 b4 bp mc mf ms:Nat} {tc:List Value} {T:Trc} (Z:RTrc Φ tc T) (G:Glob Φ) (N:Mem Φ (.blk b1 (ob tc 26)::.blk b4 (ob [.pointer (some ⟨bp,0,none⟩)] 105)::.blk bp (ob (tc++[.map (some mc),.map (some mf),.map (some ms)]) 160)::.mp mc []::.mp mf []::.imp ms []::K) w) :
  Calls prog 82 #[.pointer (some ⟨b1,0,none⟩),.pointer (some ⟨b4,0,none⟩)] w (fun ee w'=>Out (dem (zL T)) (fun _=>∃y:Fz×List (Int×Int),ee=.returned (.tuple #[])/\(Φ.Le y.1/\RProg y.1 ⟨bp,0,none⟩ T ms/\mI T T.funs []=some y.2)/\Mem y.1 (.blk b1 (ob tc 26)::.blk b4 (ob [.pointer (some ⟨bp,0,none⟩)] 105)::.imp ms (xN y.2)::K) w') (fun _=>ee=.panicked jB/\Mem Φ (.blk b1 (ob tc 26)::.blk b4 (ob [.pointer (some ⟨bp,0,none⟩)] 105)::K) w')):=by
 have d:=Z
 obtain ⟨p3,c4,p9,f1,x1,g1,y1,c22,rfl,D0,h2,h8,q,k1,u1,v1,I0,P0,J0,s,K0,Q0⟩:=RTrc.fm Z
 replace N:=N.nf
 refine zJ func82 ntmps82 fun Q hQ a J=>?_
 by_cases l1:T.cons.length<=300
 by_cases o1:T.inputs.length<=6
 by_cases p1:T.funs.length<=400
 refine Qq (fun a J=>?_) (o:=by exact fun J O=>mS (i:=T.outputs.length) (j:=6) J rfl rfl)
 refine yG call83 (fun o0 w l N a J=>?_) (fun o0 w l N=>?_) (c:=yD (b:=(decide (T.outputs.length<=6))) N)
 refine Alc fun d0 w N a J=>?_
 refine Sto 0 fun w N a J=>?_
 have B:T.cons.length<=300/\T.inputs.length<=6/\T.funs.length<=400/\T.outputs.length<=6:=by have h_:=of_decide_eq_true (zD l);omega
 refine go fun a J=>?_
 refine qD (J.ks [0,1,2,30]) N (fun R mm a w=>∃(i:Nat) (W:Nat),mm=T.funs.length - i/\R Φ [(31,.int .i64 i)] [(0,.blk d0 (ob [.int .i64 W] 3))] a w/\(nC T.funs 0=nC (T.funs.drop i) W/\W<=20000)) (T.funs.length - 0) ⟨0,0,rfl,⟨J.pk,N⟩,⟨rfl,Nat.zero_le _⟩⟩ ?_
 clear N J
 rintro mm a w ⟨i,W,C,⟨J,N⟩,g⟩ c1 I
 replace N:=N.nf
 by_cases F:i < T.funs.length
 refine go fun a J=>?_
 obtain ⟨D1,rfl,q0,t,x0,G0,M,S⟩:=q.el s F
 obtain ⟨z1,c53,e1,rfl,q1,H,L0,R0⟩:=RTFn.fm S
 obtain ⟨A1,h1,B1,i1,C1,j1,rfl,E0,F0,r1,s1,t1,M0,S0,N0,U0,O0,V0⟩:=RTE.fm H
 refine yG call84 (fun Y w k N a J=>?_) (fun Y w k N=>?_) (c:=size_ok q0.body (At.part3 M) H g.2 (by decide:(1:Nat)<=20001) N)
 refine go fun a J=>?_
 refine I _ _ _ (by subst C;omega) ⟨(i+1),(Y),rfl,⟨J.pk,N⟩,?_⟩
 exact ⟨by rw [g.1,y4o t,zR k];rfl,y0u (zR k)⟩
 replace N:=N.dl [5,4,3,2]
 rw [show zL T=false from q5o (by rw [g.1,y4o t,yL k];rfl),show dem false=.error () from rfl];exact ⟨rfl,N⟩
 refine go fun a J=>?_
 have U:nC T.funs 0=some W:=by rw [g.1,qE F];rfl
 replace N:=N.ar [] [5,5,5]
 refine yG call85 (fun p0 w n N a J=>?_) (fun p0 w n N=>?_) (c:=j9v d G N)
 refine go fun a J=>?_
 replace N:=N.ar [] [2,2,2]
 have r:=N
 clear N
 obtain ⟨v,e,N,RP⟩:=q3a d (zD n) r
 clear r
 replace q:=q.mono RTFn.mono e
 replace d:=RTrc.mono _ _ _ _ e d
 replace G:=G.mono e
 replace N:=N.nf
 refine go fun a J=>?_
 refine qD (J.ks [0,1,45]) N (fun R mm a w=>∃(D:Nat) (V:List (Int×Int)),mm=T.funs.length - D/\R v [(46,.int .i64 D)] [(3,.imp ms (xN V))] a w/\(mI T T.funs []=mI T (T.funs.drop D) V)) (T.funs.length - 0) ⟨0,[],rfl,⟨J.pk,N⟩,rfl⟩ ?_
 clear N J
 rintro mm a w ⟨D,V,C,⟨J,N⟩,h⟩ d1 L
 replace N:=N.nf
 by_cases z:D < T.funs.length
 refine Reg [2,1,2,1,1,0] [0,1,2] fun w N a J=>?_
 refine go fun a J=>?_
 obtain ⟨E1,rfl,F1,u,y0,H0,P,p⟩:=q.el s z
 obtain ⟨X0,s0,r0,rfl,z0,E,g0,k0⟩:=RTFn.fm p
 obtain ⟨Y0,t0,Z0,u0,a1,w0,rfl,e0,f0,A0,B0,C0,h0,l0,i0,m0,j0,n0⟩:=RTE.fm E
 replace N:=N.pl 3
 refine cZ call86 (fun X a0 w f A N a J=>?_) (fun X w f N=>?_) (c:=q8t (m:=V) RP P p G N)
 refine go fun a J=>?_
 replace N:=N.ar [0] [3,3,3]
 refine L _ _ _ (by subst C;omega) ⟨(D+1),(a0.2.sites),rfl,⟨J.pk,N⟩,?_⟩
 rw [h,q0y u,zR f,Option.bind_some,A.2]
 replace N:=N.le (e)
 replace N:=N.dl [0]
 rw [show zL T=false from q5n (by rw [h,q0y u,yL f];rfl),show dem false=.error () from rfl];exact ⟨rfl,N⟩
 refine go fun a J=>?_
 replace N:=N.dl [0]
 refine hQ _ _ _ (yP J results82 ?_)
 rw [show zL T=true from j2x B U RP.ok (by rw [h,qE z];rfl),show dem true=.ok () from rfl]
 exact ⟨(v,V),rfl,⟨e,RP,by rw [h,qE z];rfl⟩,N⟩
 replace N:=N.dl [3,0]
 rw [show zL T=false from q0h (zP n),show dem false=.error () from rfl];exact ⟨rfl,N⟩
 replace N:=N.dl [5,4,3,2]
 have w1:=of_decide_eq_false (zP l)
 rw [show zL T=false from tP (by omega),show dem false=.error () from rfl];exact ⟨rfl,N⟩
 refine qC call83 (fun w N=>?_) (c:=zI N)
 replace N:=N.dl [5,4,3,2]
 rw [show zL T=false from tP (by omega),show dem false=.error () from rfl];exact ⟨rfl,N⟩
 refine qC call83 (fun w N=>?_) (c:=zI N)
 replace N:=N.dl [5,4,3,2]
 rw [show zL T=false from tP (by omega),show dem false=.error () from rfl];exact ⟨rfl,N⟩
 refine qC call83 (fun w N=>?_) (c:=zI N)
 replace N:=N.dl [5,4,3,2]
 rw [show zL T=false from tP (by omega),show dem false=.error () from rfl];exact ⟨rfl,N⟩
end Go.Sw
