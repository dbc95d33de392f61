import Derived.RangeFuncRecord
import Derived.RangeFuncSeq
import Derived.RangeFuncLeaves
import Derived.RangeFuncCalls
import Derived.OwnWalkIn
import Derived.Recover
import Derived.ChangeArms
import Derived.OpenShut
import Derived.Deep.Slices
import Derived.Test.YtgkhcfjooiekkaaGreatDoorCards
import Derived.Test.YtgkhcfjooiekkaaGreatDoorTie
import Derived.PinnedBridge
import Derived.Lay
import Derived.LaidOnce
import Derived.SevenTiedAt
import Derived.HandedShaped
import Derived.Carry
import Derived.ProofKit
import Derived.Shelf.Vars
import Derived.Stop.LaidErr
import Derived.JoinedOf
import Derived.Test.YtgkhcfjooiekkaaGreatDoorX01
set_option linter.unusedVariables false
set_option linter.unusedSimpArgs false
namespace Go.Sw
def j5h (a:Nat) (ev:Nat->Ex->Env->Ev Val):Prop:=∀g,g<=a->∀e env v r,ev g e env=.ok v r->∀r',ev (g - r+r') e env=.ok v r'
theorem z2o {c:Nat} {ev:Nat->Ex->Env->Ev Val} (i:j5h c ev) (b:z5g ev) {env:Env}:∀{l:List Ex} {g r:Nat} {vs:List Val},g<=c->kA ev env l g=.ok vs r->∀r',kA ev env l (g - r+r')=.ok vs r'
 | [],g,r,vs,_,h,r'=>by
  simp only [kA,Ev.ok.injEq] at h ⊢
  exact ⟨h.1,by omega⟩
 | e::es,g,r,vs,k,h,r'=>by
  obtain ⟨v,g1,h1,h2⟩:=Ev.bind_ok h
  obtain ⟨l,a,d,f⟩:=Ev.bind_ok h2
  simp only [Ev.ok.injEq] at f
  obtain ⟨rfl,rfl⟩:=f
  have m:=b _ _ _ _ _ h1
  have n:=dE b d
  have j:g - a+r'=g - g1+(g1 - a+r'):=by omega
  simp only [kA]
  rw [j,i g k _ _ _ _ h1 (g1 - a+r')]
  simp only [Ev.bind]
  rw [z2o i b (by omega) d r']
theorem z7m {a:Nat} {ev:Nat->Ex->Env->Ev Val} (c:j5h a ev) {ns:List Bs} {az:List Val} {env:Env} {b:Ex} {g r:Nat} {v:Val} (d:g<=a) (h:aU ev ns az env b g=.ok v r) (r':Nat) :
  aU ev ns az env b (g - r+r')=.ok v r':=by
 unfold aU at h ⊢
 split at h
 ·cases h
 ·exact c g d _ _ _ _ h r'
theorem x1o {q:Nat} {ev:Nat->Ex->Env->Ev Val} (i:j5h q ev) (d:z5g ev) {C:Ctx} {g r:Nat} {e:Ex} {env:Env} {v:Val} (k:g<=q) (h:xU ev C g e env=.ok v r) (r':Nat) :
  xU ev C (g - r+r') e env=.ok v r':=by
 have u:=y7d d h
 unfold xU at h ⊢
 have triv:∀{x:Val},Ev.ok x g=.ok v r->Ev.ok x (g - r+r')=.ok v r':=fun h=>by
  simp only [Ev.ok.injEq] at h ⊢;exact ⟨h.1,by omega⟩
 split at h
 ·rw [if_pos (by assumption)];exact triv h
 rw [if_neg (by assumption)]
 split at h
 ·rw [if_pos (by assumption)];exact triv h
 rw [if_neg (by assumption)]
 split at h
 ·rw [if_pos (by assumption)];exact triv h
 rw [if_neg (by assumption)]
 split at h
 ·rw [if_pos (by assumption)]
  obtain ⟨l,g1,h1,h2⟩:=Ev.bind_ok h
  simp only [Ev.ok.injEq] at h2
  obtain ⟨rfl,rfl⟩:=h2
  rw [z2o i d k h1 r'];rfl
 rw [if_neg (by assumption)]
 split at h
 ·rw [if_pos (by assumption)]
  split at h
  ·cases h
  ·rename_i f o
   obtain ⟨l,g1,h1,h2⟩:=Ev.bind_ok h
   have s:=dE d h1
   have t:=z0v d h2
   have j:g - r+r'=g - g1+(g1 - r+r'):=by omega
   try simp only [o]
   rw [j,z2o i d k h1]
   simp only [Ev.bind]
   exact z7m i (by omega) h2 r'
 rw [if_neg (by assumption)]
 split at h
 ·rw [if_pos (by assumption)]
  split at h
  ·rename_i a b l c
   obtain ⟨x,g1,h1,h2⟩:=Ev.bind_ok h
   have s:=d _ _ _ _ _ h1
   have t:=d _ _ _ _ _ h2
   have j:g - r+r'=g - g1+(g1 - r+r'):=by omega
   try simp only [c]
   rw [j,i g k _ _ _ _ h1]
   exact i g1 (by omega) _ _ _ _ h2 r'
  ·cases h
 rw [if_neg (by assumption)]
 split at h
 ·rw [if_pos (by assumption)]
  split at h
  ·rename_i a l c
   obtain ⟨x,g1,h1,h2⟩:=Ev.bind_ok h
   have s:=d _ _ _ _ _ h1
   try simp only [c]
   split at h2
   ·cases h2
   ·rename_i m n
    have t:=z0v d h2
    have j:g - r+r'=g - g1+(g1 - r+r'):=by omega
    rw [j,i g k _ _ _ _ h1]
    simp only [Ev.bind,n]
    exact z7m i (by omega) h2 r'
  ·cases h
 rw [if_neg (by assumption)]
 split at h
 ·rw [if_pos (by assumption)]
  obtain ⟨l,g1,h1,h2⟩:=Ev.bind_ok h
  split at h2
  ·split at h2
   ·cases h2
   ·rename_i p
    simp only [Ev.ok.injEq] at h2
    obtain ⟨rfl,rfl⟩:=h2
    rw [z2o i d k h1 r'];exact if_neg p
  ·cases h2
 cases h
theorem q0s (C:Ctx):∀a,j5h a (jR C)
 | 0=>fun g c e env v r h=>by
  have:g=0:=by omega
  subst this;rw [z4d] at h;cases h
 | a+1=>fun g c e env v r h r'=>by
  cases g with
  | zero=>rw [z4d] at h;cases h
  | succ g=>
   rw [yW] at h
   have d:=y7d (jK C) h
   have b:g+1 - r+r'=(g - r+r')+1:=by omega
   rw [b,yW]
   exact x1o (q0s C a) (jK C) (by omega) h r'
theorem q0a {C:Ctx} {f:Fun} {az:List Val} {g r:Nat} {v:Val} (h:vN (jR C) f az g=.ok v r) (r':Nat):vN (jR C) f az (g - r+r')=.ok v r' :=
 z7m (q0s C g) (Nat.le_refl g) h r'
theorem sB {C:Ctx} {f:Fun} {az:List Val} {g r:Nat} {v:Val} (h:vN (jR C) f az g=.ok v r):r < g:=z0v (jK C) h
theorem j7c {C:Ctx}:∀{os:List Bs} {g r:Nat} {vs:List Val},vR C os g=.ok vs r->r<=g/\(os≠[]->r < g)
 | [],g,r,vs,h=>by simp only [vR,Ev.ok.injEq] at h;exact ⟨by omega,fun h=>absurd rfl h⟩
 | o::os,g,r,vs,h=>by
  simp only [vR] at h
  split at h
  ·cases h
  ·obtain ⟨v,g1,h1,h2⟩:=Ev.bind_ok h
   obtain ⟨l,c,a,b⟩:=Ev.bind_ok h2
   simp only [Ev.ok.injEq] at b
   have:=sB h1
   have:=(j7c a).1
   exact ⟨by omega,fun _=>by omega⟩
theorem q1y {C:Ctx}:∀{os:List Bs} {g r:Nat} {vs:List Val},vR C os g=.ok vs r->∀r',vR C os (g - r+r')=.ok vs r'
 | [],g,r,vs,h,r'=>by
  simp only [vR,Ev.ok.injEq] at h ⊢
  exact ⟨h.1,by omega⟩
 | o::os,g,r,vs,h,r'=>by
  simp only [vR] at h ⊢
  split at h
  ·cases h
  ·rename_i f e
   obtain ⟨v,g1,h1,h2⟩:=Ev.bind_ok h
   obtain ⟨l,a,b,c⟩:=Ev.bind_ok h2
   simp only [Ev.ok.injEq] at c
   obtain ⟨rfl,rfl⟩:=c
   have i:=sB h1
   have j:=(j7c b).1
   have d:g - a+r'=g - g1+(g1 - a+r'):=by omega
   try simp only
   rw [d,q0a h1]
   simp only [Ev.bind]
   rw [q1y b]
end Go.Sw

namespace Go.Sw
variable {P:Program} {n:Nat} {E:List (Nat×Value)} {D:List Deferred} {a:Act} {V Ψ:Fz} {K:List Res} {w:World}
variable {dst:Option Tmp} {ty:TypeId} {pos:String} {aft:Array Edge} {g:Option (Nat×Bool)}
variable {Kn:Value->World->Prop} {Qp:List PanicEntry->World->Prop}
def gT:List (Int×Value)->Int->Option Value
 | [],_=>none
 | (k,v)::m,s=>if s=k then some v else gT m s
def iput:List (Int×Value)->Int->Value->List (Int×Value)
 | [],s,x=>[(s,x)]
 | (k,v)::m,s,x=>if s=k then (k,x)::m else (k,v)::iput m s x
def z1d:List (Int×Value)->Int->Nat->Option (Nat×Value)
 | [],_,_=>none
 | (k,v)::m,s,i=>if s=k then some (i,v) else z1d m s (i+1)
theorem z5w:∀(es:List MapEntry) (m:List (Int×Value)) (s:Int) (i:Nat),es.map (fun e=>(e.key,e.val))=m.map (fun p=>(Value.int .i64 p.1,p.2)) ->
  Instr.findNow (.int .i64) (.int .i64 s) es i=some (z1d m s i)
 | [],[],_,_,_=>rfl
 | [],_::_,_,_,h=>by simp at h
 | _::_,[],_,_,h=>by simp at h
 | e::es,(k,v)::m,s,i,h=>by
  simp only [List.map_cons,List.cons.injEq,Prod.mk.injEq] at h
  obtain ⟨⟨h1,h2⟩,a⟩:=h
  simp only [Instr.findNow,h1,Instr.sameNow,if_true,z1d]
  by_cases O:s=k
  ·subst O;simp [h2]
  ·have hb:(s==k)=false:=by simpa using O
   simp only [hb,if_neg O]
   exact z5w es m s (i+1) a
theorem q1c:∀(m:List (Int×Value)) (s:Int) (i:Nat),(z1d m s i).map (·.2)=gT m s
 | [],_,_=>rfl
 | (k,v)::m,s,i=>by
  simp only [z1d,gT]
  split
  ·rfl
  ·exact q1c m s (i+1)
theorem z3r {kt:TypeId} (a:Under P kt (.int .i64)) (e:Bool) (v:Value) (j:Nat):(Instr.checkKey e (j+1) kt v).run P w=.ok () w:=by
 simp [Instr.checkKey,Sem.run_bind,a w]
theorem z6q {kt:TypeId} (a:Under P kt (.int .i64)) {es:Array MapEntry} {m:List (Int×Value)} (h:es.toList.map (fun e=>(e.key,e.val))=m.map (fun p=>(Value.int .i64 p.1,p.2))) (s:Int) :
  (Instr.findKey kt (.int .i64 s) es.toList).run P w=.ok (z1d m s 0) w:=by
 simp [Instr.findKey,Sem.run_bind,a w,z5w _ _ _ _ h]
theorem q9m {t kt et:TypeId} {b:Nat} {es:Array MapEntry} {clock:Nat} {m:List (Int×Value)} {z:Value} (c:Under P t (.map kt et)) (a:Under P kt (.int .i64)) (d:ZeroT P et z)
  (hb:w.heap[b]? = some (.map es clock)) (h:MapOkI es clock m) (s:Int) (ok:Bool) :
  (Instr.lookup t (.map (some b)) (.int .i64 s) ok).run P w=.ok (zK ok z (gT m s)) w:=by
 have h1:(getObj b).run P w=.ok (.map es clock) w:=by simp [getObj,Sem.run,hb]
 simp only [Instr.lookup,Sem.run_bind,c w,Result.andThen_ok,h1,Sem.run_pure,z3r a,z6q a h.eq]
 have:=q1c m s 0
 cases N:z1d m s 0 with
 | none=>rw [N] at this;simp only [Option.map_none] at this;rw [<- this];simp [d w,zK]
 | some p=>rw [N] at this;simp only [Option.map_some] at this;rw [<- this];simp [zK]
theorem xR (i:Nat) {t kt et:TypeId} {x y:Operand} {b:Nat} {m:List (Int×Value)} {z:Value} {s:Int} {ok:Bool} (e:Under P t (.map kt et)) (d:Under P kt (.int .i64)) (h:ZeroT P et z)
  (J:EnvR n E D a) (N:Sees V K w) (f:ev E x=some (.map (some b))) (g:ev E y=some (.int .i64 s)) (c:qH K i=some (.imp b m)):Ok P a (.lookup t x y ok) ty w (zK ok z (gT m s)):=fun _ _ _ _=>by
 obtain ⟨es,clock,h1,h2⟩:=N.own _ (yQ c)
 simp only [execOp,J.ev f,J.ev g]
 simp [Sem.run_bind,q9m e d h h1 h2]
theorem q3t {t:TypeId} (N:Mem V K w) (k:∀b w',Mem V (.imp b []::K) w'->Kn (.map (some b)) w'):Oper.eff P ⟨dst,.makeMap t none,ty,pos,aft,g⟩ a w Kn Qp:=by
 unfold Oper.eff
 have:(execOp a.eval ⟨dst,.makeMap t none,ty,pos,aft,g⟩).run P w=.ok (.value (.map (some w.heap.size))) { w with heap:=w.heap.push (.map #[] 0) }:=by
  simp [execOp,Instr.makeMap]
 rw [this]
 refine k _ _ (N.more rfl rfl (fun b hb=>cY hb) ⟨#[],0,by simp,by simp,by simp,by simp⟩ (by simp [Res.foot]))
theorem j6s:∀(m:List (Int×Value)) (s:Int) (v:Value) (j:Nat),iput m s v=match z1d m s j with | none=>m++[(s,v)] | some (i,_)=>m.set (i - j) (s,v)
 | [],_,_,_=>rfl
 | (k,x)::m,s,v,j=>by
  simp only [iput,z1d]
  split
  ·subst_vars;simp
  ·have:=j6s m s v (j+1)
   rw [this]
   have a:∀(m:List (Int×Value)) (j i:Nat) (y:Value),z1d m s j=some (i,y)->j<=i:=by
    intro m
    induction m with
    | nil=>intro j i y h;simp [z1d] at h
    | cons p m b=>
     intro j i y h
     obtain ⟨k,x⟩:=p
     simp only [z1d] at h
     split at h
     ·simp only [Option.some.injEq,Prod.mk.injEq] at h;omega
     ·have:=b (j+1) i y h;omega
   cases N:z1d m s (j+1) with
   | none=>simp
   | some p=>
    obtain ⟨i,y⟩:=p
    have h1:=a m (j+1) i y N
    have e:i - j=(i - (j+1))+1:=by omega
    simp only [e,List.set_cons_succ]
theorem q7r:∀(m:List (Int×Value)) (s:Int) (j i:Nat) (y:Value),z1d m s j=some (i,y)->m[i - j]? = some (s,y)/\j<=i
 | [],_,_,_,_,h=>by simp [z1d] at h
 | (k,x)::m,s,j,i,y,h=>by
  simp only [z1d] at h
  split at h
  ·simp only [Option.some.injEq,Prod.mk.injEq] at h
   obtain ⟨rfl,rfl⟩:=h;subst_vars;simp
  ·obtain ⟨h1,h2⟩:=q7r m s (j+1) i y h
   have e:i - j=(i - (j+1))+1:=by omega
   exact ⟨by rw [e];simpa using h1,by omega⟩
theorem y4b (i:Nat) {t kt et:TypeId} {x y z:Operand} {b:Nat} {m:List (Int×Value)} {s:Int} {v:Value} (X:Under P t (.map kt et)) (T:Under P kt (.int .i64))
  (J:EnvR n E D a) (N:Mem V K w) (F:ev E x=some (.map (some b))) (Y:ev E y=some (.int .i64 s)) (Z:ev E z=some v) (R:qH K i=some (.imp b m))
  (k:∀w',Mem V (wI K i (.imp b (iput m s v))) w'->Kn undef w'):Oper.eff P ⟨dst,.mapUpdate t x y z,ty,pos,aft,g⟩ a w Kn Qp:=by
 obtain ⟨es,clock,hb,f⟩:=N.own _ (yQ R)
 have h1:(getObj b).run P w=.ok (.map es clock) w:=by simp [getObj,Sem.run,hb]
 have L:b < w.heap.size:=(Array.getElem?_eq_some_iff.1 hb).1
 have u:∀o,(setObj b o).run P w=.ok () { w with heap:=w.heap.setIfInBounds b o }:=fun o=>by simp only [setObj,Sem.run,hb]
 have fin:∀es' clock',MapOkI es' clock' (iput m s v)->Mem V (wI K i (.imp b (iput m s v))) { w with heap:=w.heap.setIfInBounds b (.map es' clock') }:=fun es' clock' h=>
  N.upd R rfl rfl (fun c S M=>by simp only;rw [Array.getElem?_setIfInBounds_ne (fun e=>M (by simp [Res.foot,e]))]) ⟨es',clock',by simp [L],h⟩ (.inl rfl)
 unfold Oper.eff
 simp only [execOp,J.ev F,J.ev Y,J.ev Z,Instr.mapUpdate,Sem.run_bind,X w,Result.andThen_ok,h1,z3r T,z6q T f.eq]
 have d:=j6s m s v 0
 cases C:z1d m s 0 with
 | none=>
  rw [C] at d
  simp only at d
  simp only [u,Result.andThen_ok,Sem.run_pure,pO]
  refine k _ (fin _ _ ⟨?_,?_,?_⟩)
  ·rw [d];simp [f.eq]
  ·intro e J
   simp only [Array.toList_push,List.mem_append,List.mem_singleton] at J
   rcases J with J | rfl
   ·have:=f.old e J;omega
   ·simp
  ·simp only [Array.toList_push,List.map_append,List.map_cons,List.map_nil]
   rw [List.nodup_append]
   refine ⟨f.nodup,by simp,fun b hb c S U=>?_⟩
   simp only [List.mem_singleton] at S
   obtain ⟨e,J,rfl⟩:=List.mem_map.1 hb
   have:=f.old e J
   omega
 | some p=>
  obtain ⟨j,y⟩:=p
  rw [C] at d
  simp only [Nat.sub_zero] at d
  obtain ⟨H,_⟩:=q7r m s 0 j y C
  simp only [Nat.sub_zero] at H
  have l:es.toList[j]?.map (fun e=>(e.key,e.val))=some (Value.int .i64 s,y):=by
   rw [<- List.getElem?_map,f.eq,List.getElem?_map,H];rfl
  obtain ⟨e,A,G⟩:∃e,es[j]? = some e/\e.key=.int .i64 s:=by
   cases h:es[j]? with
   | none=>
    have h':es.toList[j]? = none:=by simpa using h
    rw [h'] at l;cases l
   | some e=>
    have h':es.toList[j]? = some e:=by simpa using h
    rw [h'] at l;simp only [Option.map_some,Option.some.injEq,Prod.mk.injEq] at l;exact ⟨e,rfl,l.1⟩
  have I:(Instr.keyThatStays (((es[j]?).map (·.key)).getD (.int .i64 s)) (.int .i64 s)).run P w=.ok (.int .i64 s) w:=by
   simp [A,G,Instr.keyThatStays,Instr.sameBits,sP]
  simp only [Sem.run_bind,I,u,Result.andThen_ok,Sem.run_pure,pO]
  have W:j < es.size:=(Array.getElem?_eq_some_iff.1 A).1
  have B:(es.modify j fun e=>{ e with key:=Value.int .i64 s,val:=v }).toList=es.toList.modify j (fun e=>{ e with key:=Value.int .i64 s,val:=v }):=by simp
  refine k _ (fin _ _ ⟨?_,?_,?_⟩)
  ·rw [B,d]
   apply List.ext_getElem?
   intro q
   have hq:es.toList[q]?.map (fun e=>(e.key,e.val))=m[q]?.map (fun p=>(Value.int .i64 p.1,p.2)):=by rw [<- List.getElem?_map,f.eq,List.getElem?_map]
   simp only [List.getElem?_map,List.getElem?_modify,List.getElem?_set]
   by_cases r:j=q
   ·subst r
    have hml':j < m.length:=(List.getElem?_eq_some_iff.1 H).1
    have h':es.toList[j]? = some e:=by simpa using A
    simp [h',hml']
   ·have hq':=hq
    simp only [Array.getElem?_toList] at hq'
    simp [r,hq']
  ·intro x F
   rw [B] at F
   obtain ⟨q,hq⟩:=List.mem_iff_getElem?.1 F
   rw [List.getElem?_modify] at hq
   cases hz':es.toList[q]? with
   | none=>rw [hz'] at hq;simp at hq
   | some e'=>
    rw [hz'] at hq
    have hb':=f.old e' (mgQ hz')
    have Q:=Option.some.inj hq
    rw [<- Q]
    show (if j=q then _ else _:MapEntry).born < clock
    by_cases r:j=q
    ·rw [if_pos r];exact hb'
    ·rw [if_neg r];exact hb'
  ·rw [B]
   have:(es.toList.modify j (fun e=>{ e with key:=Value.int .i64 s,val:=v })).map (·.born)=es.toList.map (·.born):=by
    apply List.ext_getElem?
    intro q
    simp only [List.getElem?_map,List.getElem?_modify]
    cases es.toList[q]? with
    | none=>simp
    | some e'=>simp;split <;> rfl
   rw [this];exact f.nodup
theorem wQ (i:Nat) {t kt et:TypeId} {x y z:Operand} {b:Nat} {m:List (Int×Value)} {s:Int} {v:Value} (e:Under P t (.map kt et)) (d:Under P kt (.int .i64))
  (J:EnvR n E D a) (N:Mem V K w) (f:ev E x=some (.map (some b))) (h:ev E y=some (.int .i64 s)) (j:ev E z=some v) (c:qH K i=some (.imp b m))
  (k:∀w',Mem V (wI K i (.imp b (iput m s v))) w'->Kn undef w'):Oper.eff P ⟨dst,.insert t x y z,ty,pos,aft,g⟩ a w Kn Qp :=
 show Oper.eff P ⟨dst,.mapUpdate t x y z,ty,pos,aft,g⟩ a w Kn Qp from y4b i e d J N f h j c k
end Go.Sw

namespace Go.Sw
theorem Row.one {V:Fz} {v:Value} {k:Nat} {cs:List Value} (h:Row V v k cs):Value.oneCell' v=true:=by
 rcases h with ⟨rfl,_⟩ | ⟨q,m,c,rfl,_⟩ <;> rfl
theorem SliceOf.one {α:Type} {R:Fz->List Value->α->Prop} {V:Fz} {k:Nat} {v:Value} {xs:List α} (h:SliceOf R V k v xs):Value.oneCell' v=true :=
 let ⟨_,h1,_⟩:=h;h1.one
def y7z {α:Type} (R:Fz->List Value->α->Prop):Prop:=∀V c x,R V c x->c.all Value.oneCell'=true
theorem Chunks.ones {α:Type} {R:Fz->List Value->α->Prop} (a:y7z R) {V:Fz} {k:Nat}:∀{xs:List α} {cs:List Value},Chunks (R V) k cs xs->cs.all Value.oneCell'=true
 | [],cs,h=>by simp only [Chunks] at h;subst h;rfl
 | x::xs,cs,⟨c,rest,h1,_,b,d⟩=>by
  subst h1
  rw [List.all_append,a _ _ _ b,Chunks.ones a d];rfl
theorem RParam.ones:y7z RParam:=fun _ c x h=>by cases h;rfl
theorem RData.ones:y7z RData:=fun _ c x h=>by
 obtain ⟨s,rfl,h1⟩:=h
 simp only [List.all_cons,h1.one];rfl
section
variable {P:Program} {n:Nat} {E:List (Nat×Value)} {D:List Deferred} {a:Act} {V Ψ:Fz} {K:List Res} {w:World}
end
theorem oC (ok:Bool) (ds:List (Bs×Data)) (m:List (Bs×Maker)) (d:Data) (l:List Data) :
  uW ok ds m (d::l)=uW (xQ d.name (nQ ok ds d) m d.cons).1 (pL ok ds d) (xQ d.name (nQ ok ds d) m d.cons).2 l:=rfl
theorem x7k {c:Core} {a:List (Bs×Data)} {b:List (Bs×Maker)} {f g h:Bool} {d:List (Bs×Fun)} {e:List (Bs×Bs)} (h1:uW true [] [] (truthsD::c.datas)=(f,a,b)) (h2:uX f [] c.funs=(g,d)) (k:uY g [] c.inputs=(h,e)) :
  zN c=⟨c,a,b,d,e⟩/\pA c=h:=by
 have i:dsP c=(f,a,b):=h1
 have e2:fsP c=(g,d):=by unfold fsP;rw [i];exact h2
 have j:isP c=(h,e):=by unfold isP;rw [e2];exact k
 unfold zN pA
 rw [i,e2,j];exact ⟨rfl,rfl⟩
end Go.Sw

namespace Go.Sw
mutual
theorem z2v:∀(e:Ex) (l:Int),(jJ e l).1=false->((yH e).length:Int)+16+17 * (jJ e l).2<=17 * l
 | .mk k n s args arms,l=>by
  intro h
  rw [z6h] at h ⊢
  by_cases hl:l - 1 < 0
  ·rw [if_pos hl] at h;cases h
  ·rw [if_neg hl] at h ⊢
   simp only [Ex.args,Ex.arms] at h ⊢
   have h1:=meass_bind args (l - 1)
   cases N:meass args (l - 1) with
   | mk b q=>
    rw [N] at h h1
    cases b with
    | true=>cases h
    | false=>
     have h2:=measa_bind arms q h
     have d:=h1 rfl
     simp only [z1n] at h h2 d ⊢
     simp only [yH,laQ]
     split <;> simp <;> omega
theorem meass_bind:∀(es:List Ex) (l:Int),(meass es l).1=false->((bindPs es).length:Int)+17 * (meass es l).2<=17 * l
 | [],l=>by intro _;simp [meass,bindPs]
 | e::es,l=>by
  intro h
  rw [uJ] at h ⊢
  by_cases hb:(jJ e l).1=true
  ·rw [if_pos hb] at h;cases h
  ·rw [if_neg hb] at h ⊢
   have h1:=z2v e l (by simpa using hb)
   have h2:=meass_bind es _ h
   simp only [bindPs,laQ]
   omega
theorem measa_bind:∀(es:List Arm) (l:Int),(measa es l).1=false->((bindPa es).length:Int)+17 * (measa es l).2<=17 * l
 | [],l=>by intro _;simp [measa,bindPa]
 | .mk c vs b::es,l=>by
  intro h
  have e:=oQ (.mk c vs b) es l
  change measa (.mk c vs b::es) l=(if 16 < vs.length then (true,l) else if (jJ b l).1 then (true,(jJ b l).2) else measa es (jJ b l).2) at e
  rw [e] at h ⊢
  by_cases a:16 < vs.length
  ·rw [if_pos a] at h;cases h
  ·rw [if_neg a] at h ⊢
   by_cases hb:(jJ b l).1=true
   ·rw [if_pos hb] at h;cases h
   ·rw [if_neg hb] at h ⊢
    have h1:=z2v b l (by simpa using hb)
    have h2:=measa_bind es _ h
    simp only [bindPa,laQ]
    omega
end
theorem q1p:∀{fs:List Fun} {l:Int},gL fs l=false->l<=6000->∀f∈fs,f.params.length<=16/\(yH f.body).length<=102000
 | [],_,_,_,_,h=>by cases h
 | g::fs,l,h,hl,f,a=>by
  simp only [gL,Bool.or_eq_false_iff,decide_eq_false_iff_not] at h
  have h1:=z2v g.body l h.1.2
  have h2:=aI g.body l h.1.2
  rcases List.mem_cons.1 a with rfl | a
  ·exact ⟨by omega,by omega⟩
  ·exact q1p h.2 (by omega) f a
theorem y5m {c:Core} (h:kO c=false) {f:Fun} (a:f∈c.funs):f.params.length<=16/\(yH f.body).length<=102000:=by
 simp only [kO,Bool.or_eq_false_iff] at h
 exact q1p h.2 (by omega) f a
theorem dP {c:Core} (h:pA c=true) {n:Bs} {f:Fun} (a:zW (zN c).funs n=some f):f∈c.funs:=by
 obtain ⟨g,_⟩:=z6z (show (uY (fsP c).1 [] c.inputs).1=true from h)
 obtain ⟨_,b,_⟩:=z6y (show (uX (dsP c).1 [] c.funs).1=true from g)
 have e:(zN c).funs=pS Fun.name id c.funs:=b
 rw [e] at a
 obtain ⟨x,d,_,rfl⟩:=tB a
 exact d
theorem z7a {c:Core} (hl:kO c=false) (h:pA c=true):∀n f,zW (zN c).funs n=some f->f.params.length<=1000:=fun n f a=>by
 have:=(y5m hl (dP h a)).1;omega
theorem pU {α:Type} {l:List α} {p:α->Bool} {i:Nat} {x:α} (h:l[i]? = some x):(l.drop i).all p=(p x&&(l.drop (i+1)).all p):=by
 rw [zA h];rfl
theorem q3e {α:Type} {l:List α} {p:α->Bool} {i:Nat} (h:¬i < l.length):(l.drop i).all p=true:=by
 rw [zE h];rfl
theorem z9l {α:Type} {l:List α} {p:α->Bool} (h:l.any (fun x=> !p x)=false):l.all p=true:=by
 induction l with
 | nil=>rfl
 | cons x l a=>
  simp only [List.any_cons,Bool.or_eq_false_iff,Bool.not_eq_false'] at h
  simp only [List.all_cons,h.1,a h.2];rfl
theorem z9m {α:Type} {l:List α} {p:α->Bool} (h:l.any (fun x=> !p x)=true):l.all p=false:=by
 induction l with
 | nil=>cases h
 | cons x l a=>
  simp only [List.any_cons,Bool.or_eq_true,Bool.not_eq_true'] at h
  simp only [List.all_cons]
  rcases h with h | h
  ·rw [h];rfl
  ·rw [a h];simp
def eqF {α β:Type} (p:α->β->Bool):List α->List β->Bool
 | [],[]=>true
 | x::xs,y::ys=>p x y&&eqF p xs ys
 | _,_=>false
theorem q3u {α β:Type} {p:α->β->Bool}:∀{l:List α} {m:List β},l.length≠m.length->eqF p l m=false
 | [],[],h=>absurd rfl h
 | [],_::_,_=>rfl
 | _::_,[],_=>rfl
 | x::xs,y::ys,h=>by simp only [eqF,q3u (l:=xs) (m:=ys) (by simpa using h),Bool.and_false]
theorem q1b (T:Table):∀(l:List Named) (ps:List Param),z1c T l ps=eqF (fun v p=>decide (v.name=p.name) && !mD v.value&&z3g T v.value p.type) l ps
 | [],[]=>rfl
 | v::vs,p::ps=>by simp only [z1c,eqF,q1b T vs ps]
 | [],_::_=>rfl
 | _::_,[]=>rfl
theorem z8i (T:Table):∀(l:List Val) (ps:List Param),sQ T l ps=eqF (fun v p=> !mD v&&z3g T v p.type) l ps
 | [],[]=>rfl
 | v::vs,p::ps=>by simp only [sQ,eqF,z8i T vs ps]
 | [],_::_=>rfl
 | _::_,[]=>rfl
theorem z4j:∀(l:List Val) (s:Int) (i:Nat),(larges l s).1=z3h (fun s x=>xS x s) s l/\(larges l s).2=(yP (fun s x=>xS x s) s l i).2
 | [],s,i=>⟨rfl,rfl⟩
 | v::vs,s,i=>by
  simp only [larges,z3h,yP]
  cases h:xS v s with
  | mk b q=>cases b with
   | true=>exact ⟨rfl,rfl⟩
   | false=>exact z4j vs q (i+1)
theorem z8o (v:Val) (l:Int):xS v l=if IntKind.i64.wrap (l - 1) < 0 then (true,IntKind.i64.wrap (l - 1)) else larges v.args (IntKind.i64.wrap (l - 1)):=by
 cases v;rfl
section
variable {P:Program} {n:Nat} {E:List (Nat×Value)} {D:List Deferred} {a:Act} {V Ψ:Fz} {K K':List Res} {w:World}
variable {Kn:Value->World->Prop} {Qp:List PanicEntry->World->Prop} {dst:Option Tmp} {ty:TypeId} {pos:String} {aft:Array Edge} {g:Option (Nat×Bool)}
variable {f:FuncId} {xs:Array Operand} {ts:Array TypeId} {vs fs cs:List Value} {y:Operand}
theorem oJ {β:Type} {X:β->Value} {F1:β->Fz} {KO:β->List Res} {G:β->Prop} (J:EnvR n E D a) (l:ev E y=some (.func (.func f) fs.toArray cs.toArray)) (j:evs E xs.toList=some vs) (i:∀args w,(callFunc f args).run P w=.ok (.enter f args) w)
  (d:Calls P f (fs++vs++cs).toArray w (fun e w'=>∃y,e=.returned (X y)/\G y/\Mem (F1 y) (KO y) w')) (k:∀y w',G y->Mem (F1 y) (KO y) w'->Kn (X y) w') :
  Oper.eff P ⟨dst,.call { callee:=.value y,args:=xs,argTypes:=ts },ty,pos,aft,g⟩ a w Kn Qp :=
 z8c J l j i d (fun v w' h=>by obtain ⟨y,h1,h2,b⟩:=h;cases h1;exact k _ _ h2 b) (fun c w' h=>by obtain ⟨y,h1,_⟩:=h;cases h1) (fun w' h=>by obtain ⟨y,h1,_⟩:=h;cases h1)
theorem Sees.gsSome {i j m c k:Nat} {p:Option Addr} {T:TypeId} {cells:List Value} (N:Sees V K w) (a:qH K i=some (.gs (.slice p m c) T k cells)) (d:j < m):∃q,p=some q:=by
 obtain ⟨nn,_,h2⟩:=N.own _ (yQ a)
 rcases h2 with ⟨h,_⟩ | ⟨b,cap,cur,h,_⟩
 ·simp only [Value.slice.injEq] at h;omega
 ·simp only [Value.slice.injEq] at h;exact ⟨_,h.1⟩
theorem x2g (i j:Nat) {x:Operand} {T b:TypeId} {q:Addr} {m c k:Nat} {cells:List Value} {v:Value} (J:EnvR n E D a) (N:Sees V K w)
  (l:ev E x=some (.pointer (some (q.add (j * k))))) (f:qH K i=some (.gs (.slice (some q) m c) b k cells)) (g:cells[j * k]? = some v) (e:Scalar P T):Ok P a (.load T x) ty w v:=fun _ _ _ _=>by
 have h1:w.cell? (q.add (j * k))=some v:=by
  rcases N.rowIn f with ⟨h,_⟩ | ⟨q',m',c',h,_,d⟩
  ·cases h
  ·simp only [Value.slice.injEq,Option.some.injEq] at h
   obtain ⟨rfl,rfl,rfl⟩:=h
   exact d _ _ g
 simp only [execOp,J.ev l]
 simp [Instr.loadAt,Instr.sureAddr,loadVar,Sem.run_bind,e w,Result.andThen,load,Sem.run,h1]
end
def z3i (l:List Int):List Value:=l.map (.int .i64)
theorem z9x (l:List Int):(z3i l).length=l.length:=by simp [z3i]
def gH (l:List Int):Int:=l.foldl (fun a x=>IntKind.i64.wrap (a+x)) 0
theorem sE (T:Table) (v:Val) (name:Bs):z3g T v name =
  if v.con=sNo∨name=yL then decide (v.con=sNo)&&decide (name=yL)&&decide (v.args.length=0)
  else match zW T.cons v.con with
   | none=>false
   | some m=>decide (m.data=name)&&decide (v.num=0)&&decide (m.con.fields.length=v.args.length)&&hasL T v.args m.con.fields:=by
 cases v;rfl
theorem j9u (T:Table) (v:Val) (vs:List Val) (f:Bs) (fs:List Bs):hasL T (v::vs) (f::fs)=(z3g T v f&&hasL T vs fs):=rfl
def z9k (v:Val):Prop:=∃l:Int,0<=l/\l<=4000/\(xS v l).1=false
mutual
theorem q1k:∀(v:Val) (l:Int),0<=l->l<=4000->(xS v l).1=false->0<=(xS v l).2/\(xS v l).2 < l
 | .mk c n args,l=>by
  intro a h1 h
  simp only [xS] at h ⊢
  have e:IntKind.i64.wrap (l - 1)=l - 1:=yB (by omega)
  rw [e] at h ⊢
  split at h
  ·cases h
  ·rename_i hl
   rw [if_neg hl]
   have:=larges_le args (l - 1) (by omega) (by omega) h
   omega
theorem larges_le:∀(vs:List Val) (l:Int),0<=l->l<=4000->(larges vs l).1=false->0<=(larges vs l).2/\(larges vs l).2+vs.length<=l
 | [],l=>by intro a _ _;simp only [larges];simp;omega
 | v::vs,l=>by
  intro a h1 h
  simp only [larges] at h ⊢
  have d:=q1k v l a h1
  cases N:xS v l with
  | mk b q=>
   rw [N] at h d
   cases b with
   | true=>cases h
   | false=>
    have f:=d rfl
    simp only at f h ⊢
    have g:=larges_le vs q (by omega) (by omega) h
    simp only [lcQ]
    omega
end
theorem z6f:∀{vs:List Val} {l:Int},0<=l->l<=4000->(larges vs l).1=false->∀x∈vs,z9k x
 | [],_,_,_,_,x,a=>by cases a
 | v::vs,l,c,h1,h,x,a=>by
  simp only [larges] at h
  have d:=q1k v l c h1
  cases N:xS v l with
  | mk b q=>
   rw [N] at h d
   cases b with
   | true=>cases h
   | false=>
    have e:=d rfl
    simp only at e h
    rcases List.mem_cons.1 a with rfl | a
    ·exact ⟨l,c,h1,by rw [N]⟩
    ·exact z6f (l:=q) (by omega) (by omega) h x a
theorem y7a {v:Val} (h:z9k v):v.args.length<=4000/\∀x∈v.args,z9k x:=by
 obtain ⟨l,a,h1,h⟩:=h
 rw [z8o,show IntKind.i64.wrap (l - 1)=l - 1 from yB (by omega)] at h
 split at h
 ·cases h
 ·have:=larges_le v.args (l - 1) (by omega) (by omega) h
  exact ⟨by omega,z6f (by omega) (by omega) h⟩
theorem q9u {v:Val} (h:mD v=false):z9k v:=⟨4000,by omega,by omega,h⟩
def pT (e:Ex):Prop:=∃l:Int,l<=6000/\(jJ e l).1=false
theorem y0g:∀{es:List Ex} {l:Int},l<=6000->(meass es l).1=false->0<=l->((es.length:Int)<=l)/\∀x∈es,pT x
 | [],l,_,_,g=>⟨by simpa using g,fun x a=>by cases a⟩
 | e::es,l,h1,h,g=>by
  rw [uJ] at h
  by_cases hb:(jJ e l).1=true
  ·rw [if_pos hb] at h;cases h
  ·have hb':(jJ e l).1=false:=by simpa using hb
   rw [if_neg hb] at h
   have c:=aI e l hb'
   have i:(jJ e l).2 < l:=by
    rw [z6h] at hb' c ⊢
    by_cases hl:l - 1 < 0
    ·rw [if_pos hl] at hb';cases hb'
    ·rw [if_neg hl] at hb' c ⊢
     cases N:meass e.args (l - 1) with
     | mk b q=>
      have d:=meass_le e.args (l - 1)
      rw [N] at hb' c d
      cases b with
      | true=>cases hb'
      | false=>
       have f:=d rfl (by omega)
       simp only [z1n] at hb' c f ⊢
       have j:=measa_le e.arms q hb' (by omega)
       omega
   obtain ⟨d,f⟩:=y0g (l:=(jJ e l).2) (by omega) h (by omega)
   refine ⟨by simp only [lcQ];omega,fun x a=>?_⟩
   rcases List.mem_cons.1 a with rfl | a
   ·exact ⟨l,h1,hb'⟩
   ·exact f x a
theorem y0f:∀{es:List Arm} {l:Int},l<=6000->(measa es l).1=false->0<=l->∀a∈es,pT a.body/\a.vars.length<=16
 | [],l,_,_,_,a,c=>by cases c
 | b::es,l,h1,h,e,a,c=>by
  rw [oQ] at h
  by_cases d:16 < b.vars.length
  ·rw [if_pos d] at h;cases h
  ·rw [if_neg d] at h
   by_cases hb:(jJ b.body l).1=true
   ·rw [if_pos hb] at h;cases h
   ·rw [if_neg hb] at h
    have hb':(jJ b.body l).1=false:=by simpa using hb
    have f:=aI b.body l hb'
    rcases List.mem_cons.1 c with rfl | c
    ·exact ⟨⟨l,h1,hb'⟩,by omega⟩
    ·exact y0f (l:=(jJ b.body l).2) (by omega) h (by omega) a c
theorem qZ {e:Ex} (h:pT e):e.args.length<=6000/\(∀x∈e.args,pT x)/\∀a∈e.arms,pT a.body/\a.vars.length<=16:=by
 obtain ⟨l,h1,h⟩:=h
 rw [z6h] at h
 by_cases hl:l - 1 < 0
 ·rw [if_pos hl] at h;cases h
 ·rw [if_neg hl] at h
  cases N:meass e.args (l - 1) with
  | mk b q=>
   rw [N] at h
   cases b with
   | true=>cases h
   | false=>
    have d:=y0g (es:=e.args) (l:=l - 1) (by omega) (by rw [N]) (by omega)
    have c:=meass_le e.args (l - 1) (by rw [N]) (by omega)
    rw [N] at c
    simp only [z1n] at h c
    exact ⟨by omega,d.2,y0f (by omega) h (by omega)⟩
theorem y0e:∀{fs:List Fun} {l:Int},gL fs l=false->l<=6000->∀f∈fs,pT f.body
 | [],_,_,_,_,h=>by cases h
 | g::fs,l,h,hl,f,a=>by
  simp only [gL,Bool.or_eq_false_iff,decide_eq_false_iff_not] at h
  have h2:=aI g.body l h.1.2
  rcases List.mem_cons.1 a with rfl | a
  ·exact ⟨l,hl,h.1.2⟩
  ·exact y0e h.2 (by omega) f a
theorem oP {c:Core} (h:kO c=false) {f:Fun} (a:f∈c.funs):pT f.body:=by
 simp only [kO,Bool.or_eq_false_iff] at h
 exact y0e h.2 (by omega) f a
end Go.Sw

namespace Go.Sw
def REnv (V:Fz):Env->Option Addr->Prop
 | [],o=>o=none
 | (n,x)::env,o=>∃p c o',o=some p/\At V p (.string n::c++[.pointer o'])/\c.length=3/\RVal V c x/\REnv V env o'
theorem REnv.mono {V Ψ:Fz} (hl:V.Le Ψ):∀{env:Env} {o:Option Addr},REnv V env o->REnv Ψ env o
 | [],_,h=>h
 | (_,_)::_,_,⟨p,c,o',h1,h2,a,b,d⟩=>⟨p,c,o',h1,h2.mono hl,a,RVal.mono _ _ _ _ hl b,REnv.mono hl d⟩
def RGiven (V:Fz) (v:Value) (inp:List (Bs×Val)):Prop:=(∃b d,v=.map (some b)/\MapAt V b d/\MapRel (RVa RVal V) d inp)∨(v=.map none/\inp=[])
theorem RGiven.mono {V Ψ:Fz} (hl:V.Le Ψ) {v:Value} {inp:List (Bs×Val)} (h:RGiven V v inp):RGiven Ψ v inp:=by
 rcases h with ⟨b,d,h1,h2,a⟩ | h
 ·exact .inl ⟨b,d,h1,h2.mono hl,a.mono (RVa.mono RVal.mono hl)⟩
 ·exact .inr h
theorem RGiven.one {V:Fz} {v:Value} {inp:List (Bs×Val)} (h:RGiven V v inp):Value.oneCell' v=true:=by
 rcases h with ⟨b,d,h1,_⟩ | h
 ·subst h1;rfl
 ·rw [h.1];rfl
theorem RVal.zero {V:Fz}:RVal V [.string sNo,.int .i64 0,.slice none 0 0] v0:=RVal.iff.2 ⟨_,rfl,⟨by decide,by decide⟩,SliceOf.nil 3⟩
section
variable {P:Program} {n:Nat} {E:List (Nat×Value)} {D:List Deferred} {a:Act} {V Ψ:Fz} {K K':List Res} {w:World}
theorem q4c {t kt et:TypeId} {x y:Operand} {ty:TypeId} {s:Bs} {v:Value} {inp:List (Bs×Val)} (l:RGiven V v inp) (h:Under P t (.map kt et)) (g:Under P kt .string) (k:ZeroT P et (.agg #[.string sNo,.int .i64 0,.slice none 0 0]))
  (J:EnvR n E D a) (N:Sees V K w) (i:ev E x=some v) (j:ev E y=some (.string s)):∃cs,RVal V cs ((zW inp s).getD v0)/\Ok P a (.lookup t x y false) ty w (.agg cs.toArray):=by
 rcases l with ⟨b,d,rfl,h2,f⟩ | ⟨rfl,rfl⟩
 ·have hl:=yC (P:=P) (ty:=ty) (w:=w) (ok:=false) h g k J N i j h2
  cases c:yV d s with
  | none=>
   rw [c] at hl
   rw [f.none c]
   exact ⟨_,RVal.zero,hl⟩
  | some u=>
   obtain ⟨q,hq,cs,e,hr⟩:=f.get c
   rw [c] at hl
   rw [hq]
   subst e
   exact ⟨cs,hr,hl⟩
 ·exact ⟨_,RVal.zero,q5q (P:=P) (ty:=ty) (w:=w) (ok:=false) h g k J i j⟩
theorem j2v {o:BinOp} {t t':TypeId} {x:Operand} {y:Operand} {p:Addr} {ty:TypeId} (b:o=.neq) (J:EnvR n E D a) (c:ev E x=some (.pointer (some p))) (d:ev E y=some (.pointer none))
  (hb:∀w,(binOp .neq t (.pointer (some p)) (.pointer none)).run P w=.ok (.bool true) w):Ok P a (.binOp o t x y t') ty w (.bool true):=by
 subst b;exact nT J c d rfl (hb w)
theorem j2u {o:BinOp} {t t':TypeId} {x:Operand} {y:Operand} {ty:TypeId} (b:o=.neq) (J:EnvR n E D a) (c:ev E x=some (.pointer none)) (d:ev E y=some (.pointer none))
  (hb:∀w,(binOp .neq t (.pointer none) (.pointer none)).run P w=.ok (.bool false) w):Ok P a (.binOp o t x y t') ty w (.bool false):=by
 subst b;exact nT J c d rfl (hb w)
end
section
variable {P:Program} {n:Nat} {E:List (Nat×Value)} {D:List Deferred} {a:Act} {V Ψ:Fz} {K K':List Res} {w:World}
variable {Kn:Value->World->Prop} {Qp:List PanicEntry->World->Prop} {dst:Option Tmp} {ty:TypeId} {pos:String} {aft:Array Edge} {g:Option (Nat×Bool)}
theorem j9d {t kt et:TypeId} {x y:Operand} {s:Bs} {v:Value} {inp:List (Bs×Val)} (b:RGiven V v inp) (d:Under P t (.map kt et)) (c:Under P kt .string) (h:ZeroT P et (.agg #[.string sNo,.int .i64 0,.slice none 0 0]))
  (J:EnvR n E D a) (N:Sees V K w) (e:ev E x=some v) (f:ev E y=some (.string s)) (k:∀cs,RVal V cs ((zW inp s).getD v0)->Kn (.agg cs.toArray) w):Oper.eff P ⟨dst,.lookup t x y false,ty,pos,aft,g⟩ a w Kn Qp:=by
 obtain ⟨cs,h1,h2⟩:=q4c (ty:=ty) b d c h J N e f
 exact pY h2 (k cs h1)
end
def evX {α:Type} (r:Ev α):Except Unit (α×Nat):=match r with
 | .ok x g=>.ok (x,g)
 | _=>.error ()
theorem wV {α:Type} {r:Ev α} {x:α×Nat} (h:evX r=.ok x):r=.ok x.1 x.2:=by
 cases r with
 | ok y g=>simp only [evX,Except.ok.injEq] at h;subst h;rfl
 | spent=>cases h
 | stuck=>cases h
theorem vB {α:Type} {r:Ev α} {c:Unit} (h:evX r=.error c) (O:r≠.stuck):r=.spent:=by
 cases r with
 | ok y g=>cases h
 | spent=>rfl
 | stuck=>exact absurd rfl O
theorem tC {α:Type} {r:Ev α} {x:α} {g:Nat} {A:α×Nat->Prop} {B:Unit->Prop} (h:r=.ok x g) (a:A (x,g)):Out (evX r) A B:=by subst h;exact a
theorem nD {α:Type} {r:Ev α} {A:α×Nat->Prop} {B:Unit->Prop} (h:r=.spent) (a:B ()):Out (evX r) A B:=by subst h;exact a
theorem jX {α β:Type} {r:Ev α} {f:α->Nat->Ev β} (h:r.bind f≠.stuck):r≠.stuck:=by rintro rfl;exact h rfl
theorem y5q {α β:Type} {r:Ev α} {f:α->Nat->Ev β} {x:α} {g:Nat} (h:r.bind f≠.stuck) (hr:r=.ok x g):f x g≠.stuck:=by subst hr;exact h
theorem mX {α β:Type} {r:Ev α} {f:α->Nat->Ev β} {x:α} {g:Nat} (hr:r=.ok x g):r.bind f=f x g:=by subst hr;rfl
theorem nB {α β:Type} {r:Ev α} {f:α->Nat->Ev β} (hr:r=.spent):r.bind f=.spent:=by subst hr;rfl
def sT:Unit->List PanicEntry:=fun _=>[{ v:=.iface 177 (.agg #[]),recovered:=false }]
abbrev stepsB (bs n:Nat):Res:=.blk bs (ob [.int .i64 n] 3)
abbrev runV (p:Addr) (mg:Value) (bs fuel:Nat):Value:=.agg #[.pointer (some p),mg,.pointer (some ⟨bs,0,none⟩),.int .i64 fuel]
def z0s (T:Table):Prop:=∀n f,zW T.funs n=some f->f.params.length<=1000/\pT f.body
def oD (P:Program) (T:Table) (inp:List (Bs×Val)) (g:Nat):Prop :=
 ∀{V:Fz} {K:List Res} {w:World} {p:Addr} {d:List Value} {e:Ex} {env:Env} {o:Option Addr} {mg:Value} {bs fuel:Nat},RTable V p T->RGiven V mg inp->REx V d e->REnv V env o->pT e->g<=fuel->fuel<=1000000 ->
  jR ⟨T.funs,inp⟩ g e env≠.stuck->Mem V (stepsB bs (fuel - g)::K) w ->
  Calls P 103 #[runV p mg bs fuel,.agg d.toArray,.pointer o] w (fun ee w'=>Out (evX (jR ⟨T.funs,inp⟩ g e env))
   (fun x=>∃y:Fz×List Value,ee=.returned (.agg y.2.toArray)/\(V.Le y.1/\RVal y.1 y.2 x.1)/\Mem y.1 (stepsB bs (fuel - x.2)::K) w')
   (fun c=>ee=.panicked (sT c)/\Mem V (stepsB bs (fuel+1)::K) w'))
def x2j (P:Program) (T:Table) (inp:List (Bs×Val)) (g:Nat):Prop :=
 ∀{V:Fz} {K:List Res} {w:World} {p:Addr} {l:List Ex} {env:Env} {o:Option Addr} {s mg:Value} {bs fuel:Nat},RTable V p T->RGiven V mg inp->SliceOf REx V 5 s l->REnv V env o->(∀x∈l,pT x)->l.length<=6000->g<=fuel->fuel<=1000000 ->
  kA (jR ⟨T.funs,inp⟩) env l g≠.stuck->Mem V (stepsB bs (fuel - g)::K) w ->
  Calls P 158 #[runV p mg bs fuel,s,.pointer o] w (fun ee w'=>Out (evX (kA (jR ⟨T.funs,inp⟩) env l g))
   (fun x=>∃y:Fz×Value,ee=.returned y.2/\(V.Le y.1/\SliceOf RVal y.1 3 y.2 x.1)/\Mem y.1 (stepsB bs (fuel - x.2)::K) w')
   (fun c=>ee=.panicked (sT c)/\Mem V (stepsB bs (fuel+1)::K) w'))
def q5x (P:Program) (T:Table) (inp:List (Bs×Val)) (g:Nat):Prop :=
 ∀{V:Fz} {K:List Res} {w:World} {p:Addr} {d:List Value} {f:Fun} {l:List Val} {s mg:Value} {bs fuel:Nat},RTable V p T->RGiven V mg inp->RFun V d f->SliceOf RVal V 3 s l->f.params.length<=1000->pT f.body->g<=fuel->fuel<=1000000 ->
  vN (jR ⟨T.funs,inp⟩) f l g≠.stuck->Mem V (stepsB bs (fuel - g)::K) w ->
  Calls P 48 #[runV p mg bs fuel,.agg d.toArray,s] w (fun ee w'=>Out (evX (vN (jR ⟨T.funs,inp⟩) f l g))
   (fun x=>∃y:Fz×List Value,ee=.returned (.agg y.2.toArray)/\(V.Le y.1/\RVal y.1 y.2 x.1)/\Mem y.1 (stepsB bs (fuel - x.2)::K) w')
   (fun c=>ee=.panicked (sT c)/\Mem V (stepsB bs (fuel+1)::K) w'))
theorem j5z {α:Type} (r:Ev (List α)):r=r.bind fun vs g=>.ok ([]++vs) g:=by cases r <;> rfl
theorem q3q {ev:Nat->Ex->Env->Ev Val} {env:Env} {x:Ex} {rest:List Ex} {g1 a:Nat} {z:Val} {xs:List Val} (b:ev g1 x env=.ok z a) :
  (kA ev env (x::rest) g1).bind (fun vs g=>.ok (xs++vs) g)=(kA ev env rest a).bind fun vs g=>.ok ((xs++[z])++vs) g:=by
 simp only [kA]
 rw [b]
 simp only [Ev.bind]
 cases kA ev env rest a <;> simp
theorem q3r {ev:Nat->Ex->Env->Ev Val} {env:Env} {x:Ex} {rest:List Ex} {g1:Nat} {xs:List Val} (a:ev g1 x env=.spent) :
  (kA ev env (x::rest) g1).bind (fun vs g=>.ok (xs++vs) g)=.spent:=by
 simp only [kA]
 rw [a];rfl
theorem q6w {ev:Nat->Ex->Env->Ev Val} {env:Env} {g1:Nat} {xs:List Val}:(kA ev env [] g1).bind (fun vs g=>.ok (xs++vs) g)=.ok xs g1:=by
 simp [kA,Ev.bind]
theorem j1f {ev:Nat->Ex->Env->Ev Val} {f:Fun} {l:List Val} {g:Nat} (h:vN ev f l g≠.stuck):∃env,dD (f.params.map Param.name) l []=some env:=by
 unfold vN aU at h
 cases hb:dD (f.params.map Param.name) l [] with
 | none=>rw [hb] at h;exact absurd rfl h
 | some env=>exact ⟨env,rfl⟩
theorem z7l:∀{ns:List Bs} {az:List Val} {env env':Env} {i:Nat},dD (ns.drop i) (az.drop i) env=some env'->i < ns.length->i < az.length
 | ns,az,env,env',i,h,b=>by
  by_cases a:i < az.length
  ·exact a
  ·rw [List.drop_eq_getElem_cons b,zE a] at h
   cases h
theorem x5h {l:List Int} {i:Nat} {x:Int} (h:l[i]? = some x):(z3i l)[i * 1]? = some (.int .i64 x):=by
 simp [z3i,h]
theorem yS (l:List Int) (x:Int):gH (l++[x])=IntKind.i64.wrap (gH l+x):=by simp [gH]
theorem xK {α:Type} {l:List α} {i:Nat} {x:α} (h:l[i]? = some x):l.take (i+1)=l.take i++[x]:=by
 rw [List.take_add_one,h];rfl
theorem y7h {α:Type} {l:List α} {i:Nat} (h:¬i < l.length):l.take i=l:=List.take_of_length_le (by omega)
end Go.Sw

namespace Go.Sw
section
variable {ev:Nat->Ex->Env->Ev Val} {C:Ctx} {g:Nat} {e:Ex} {env:Env}
theorem x7j (h:e.kind=1):xU ev C g e env=.ok (z9c e.num) g:=by unfold xU;simp [h]
theorem q9w (h:e.kind=2):xU ev C g e env=.ok ((zW env e.name).getD v0) g:=by unfold xU;simp [h]
theorem x7i (h:e.kind=3):xU ev C g e env=.ok ((zW C.inp e.name).getD v0) g:=by unfold xU;simp [h]
theorem y7e (h:e.kind=4):xU ev C g e env=(kA ev env e.args g).bind fun l g=>.ok (.mk e.name 0 l) g:=by unfold xU;simp [h]
theorem z3a {f:Fun} (h:e.kind=5) (a:zW C.funs e.name=some f):xU ev C g e env=(kA ev env e.args g).bind fun l g=>vN ev f l g:=by unfold xU;simp [h,a]
theorem j4n (h:e.kind=5) (a:zW C.funs e.name=none):xU ev C g e env=.stuck:=by unfold xU;simp [h,a]
theorem x1p (h:e.kind=6) (c:xU ev C g e env≠.stuck):2<=e.args.length:=by
 unfold xU at c
 simp only [h] at c
 match d:e.args with
 | []=>rw [d] at c;simp at c
 | [a]=>rw [d] at c;simp at c
 | a::b::l=>simp
theorem dO {a b:Ex} (h:e.kind=6) (c:e.args[0]? = some a) (h1:e.args[1]? = some b):xU ev C g e env=(ev g a env).bind fun x g=>ev g b ((e.name,x)::env):=by
 unfold xU
 simp only [h]
 match d:e.args with
 | []=>rw [d] at c;simp at c
 | [x]=>rw [d] at h1;simp at h1
 | x::y::l=>
  rw [d] at c h1
  simp only [List.getElem?_cons_zero,List.getElem?_cons_succ,Option.some.injEq] at c h1
  subst c;subst h1;simp
def y9s (ev:Nat->Ex->Env->Ev Val) (arms:List Arm) (env:Env) (x:Val) (g:Nat):Ev Val:=match wW arms x.con with
 | none=>.stuck
 | some m=>aU ev m.vars x.args env m.body g
theorem j4m (h:e.kind=7) (b:xU ev C g e env≠.stuck):1<=e.args.length:=by
 unfold xU at b
 simp only [h] at b
 match c:e.args with
 | []=>rw [c] at b;simp at b
 | a::l=>simp
theorem nP {a:Ex} (h:e.kind=7) (b:e.args[0]? = some a):xU ev C g e env=(ev g a env).bind fun x g=>y9s ev e.arms env x g:=by
 unfold xU
 simp only [h]
 match c:e.args with
 | []=>rw [c] at b;simp at b
 | x::l=>
  rw [c] at b
  simp only [List.getElem?_cons_zero,Option.some.injEq] at b
  subst b;simp [y9s];rfl
def opOf (nm:Bs) (l:List Val) (g:Nat):Ev Val:=match l with
 | a::b::_=>if opT nm=sNo then .stuck else .ok (jV nm a.num b.num) g
 | _=>.stuck
theorem q5h (h:e.kind=8):xU ev C g e env=(kA ev env e.args g).bind fun l g=>opOf e.name l g:=by unfold xU;simp [h];rfl
theorem x6c {nm:Bs} {l:List Val} (h:opOf nm l g≠.stuck):2<=l.length:=by
 match l with
 | []=>exact absurd rfl h
 | [a]=>exact absurd rfl h
 | a::b::l=>simp
theorem opOf_eq {nm:Bs} {l:List Val} {a b:Val} (c:l[0]? = some a) (h1:l[1]? = some b) (d:opOf nm l g≠.stuck):opT nm≠sNo/\opOf nm l g=.ok (jV nm a.num b.num) g:=by
 match l with
 | []=>simp at c
 | [x]=>simp at h1
 | x::y::l=>
  simp only [List.getElem?_cons_zero,List.getElem?_cons_succ,Option.some.injEq] at c h1
  subst c;subst h1
  by_cases h:opT nm=sNo
  ·exact absurd (if_pos h) d
  ·exact ⟨h,if_neg h⟩
theorem x1q (h1:e.kind≠1) (h2:e.kind≠2) (a:e.kind≠3) (b:e.kind≠4) (c:e.kind≠5) (d:e.kind≠6) (f:e.kind≠7) (h:e.kind≠8):xU ev C g e env=.stuck:=by
 unfold xU;simp [*]
theorem y2a {arms:List Arm} {x:Val} (h:wW arms x.con=none):y9s ev arms env x g=.stuck:=by unfold y9s;rw [h]
theorem cD {arms:List Arm} {x:Val} {m:Arm} (h:wW arms x.con=some m):y9s ev arms env x g=aU ev m.vars x.args env m.body g:=by unfold y9s;rw [h]
theorem y2g {ns:List Bs} {az:List Val} {b:Ex} (h:aU ev ns az env b g≠.stuck):∃en,dD ns az env=some en:=by
 unfold aU at h
 cases hb:dD ns az env with
 | none=>rw [hb] at h;exact absurd rfl h
 | some en=>exact ⟨en,rfl⟩
theorem z2k {ns:List Bs} {az:List Val} {b:Ex} {en:Env} (h:dD ns az env=some en):aU ev ns az env b g=ev g b en:=by unfold aU;rw [h]
theorem y9y {az:List Val} {en:Env}:dD [] az en=some en:=by cases az <;> rfl
end
theorem q3s {C:Ctx} {env:Env} {l:List Ex} {g r:Nat} {vs:List Val} (h:kA (jR C) env l g=.ok vs r):r<=g:=dE (jK C) h
end Go.Sw

namespace Go.Sw
open Go.Proofs.Tryz
open Go.Proofs
theorem mixed:prog.follows .mixedOrders=true:=by kernel_rfl
theorem fo_27_0:zM prog 27 0 0:=zG runUnderlying27 rfl sizeOf22 (by decide) rfl
theorem fo_27_1:zM prog 27 1 1:=zG runUnderlying27 rfl sizeOf23 (by decide) rfl
theorem fo_27_2:zM prog 27 2 2:=zG runUnderlying27 rfl sizeOf24 (by decide) rfl
theorem fo_27_3:zM prog 27 3 3:=zG runUnderlying27 rfl sizeOf25 (by decide) rfl
theorem fo_30_0:zM prog 30 0 0:=zG runUnderlying30 rfl sizeOf28 (by decide) rfl
theorem fo_30_1:zM prog 30 1 1:=zG runUnderlying30 rfl sizeOf3 (by decide) rfl
theorem fo_42_0:zM prog 42 0 0:=zG runUnderlying42 rfl sizeOf9 (by decide) rfl
theorem fo_42_1:zM prog 42 1 1:=zG runUnderlying42 rfl sizeOf3 (by decide) rfl
theorem fo_42_2:zM prog 42 2 2:=zG runUnderlying42 rfl sizeOf38 (by decide) rfl
theorem fo_62_0:zM prog 62 0 0:=zG runUnderlying62 rfl sizeOf9 (by decide) rfl
theorem fo_62_1:zM prog 62 1 1:=zG runUnderlying62 rfl sizeOf42 (by decide) rfl
theorem fo_66_0:zM prog 66 0 0:=zG runUnderlying66 rfl sizeOf3 (by decide) rfl
theorem fo_66_1:zM prog 66 1 1:=zG runUnderlying66 rfl sizeOf3 (by decide) rfl
theorem fo_66_2:zM prog 66 2 2:=zG runUnderlying66 rfl sizeOf9 (by decide) rfl
theorem fo_66_3:zM prog 66 3 3:=zG runUnderlying66 rfl sizeOf63 (by decide) rfl
theorem fo_66_4:zM prog 66 4 4:=zG runUnderlying66 rfl sizeOf64 (by decide) rfl
theorem fo_68_0:zM prog 68 0 0:=zG runUnderlying68 rfl sizeOf9 (by decide) rfl
theorem fo_68_1:zM prog 68 1 1:=zG runUnderlying68 rfl sizeOf23 (by decide) rfl
theorem fo_68_2:zM prog 68 2 2:=zG runUnderlying68 rfl sizeOf9 (by decide) rfl
theorem fo_68_3:zM prog 68 3 3:=zG runUnderlying68 rfl sizeOf66 (by decide) rfl
theorem fo_72_0:zM prog 72 0 0:=zG runUnderlying72 rfl sizeOf9 (by decide) rfl
theorem fo_72_1:zM prog 72 1 1:=zG runUnderlying72 rfl sizeOf9 (by decide) rfl
theorem fo_99_0:zM prog 99 0 0:=zG runUnderlying99 rfl sizeOf89 (by decide) rfl
theorem fo_99_1:zM prog 99 1 1:=zG runUnderlying99 rfl sizeOf94 (by decide) rfl
theorem fo_99_2:zM prog 99 2 2:=zG runUnderlying99 rfl sizeOf96 (by decide) rfl
theorem fo_99_3:zM prog 99 3 3:=zG runUnderlying99 rfl sizeOf3 (by decide) rfl
theorem x3m:zM prog 106 0 0:=zG runUnderlying106 rfl sizeOf27 (by decide) rfl
theorem x3n:zM prog 106 1 4:=zG runUnderlying106 rfl sizeOf101 (by decide) rfl
theorem x3o:zM prog 106 2 5:=zG runUnderlying106 rfl sizeOf102 (by decide) rfl
theorem x3p:zM prog 106 3 6:=zG runUnderlying106 rfl sizeOf103 (by decide) rfl
theorem x3q:zM prog 106 4 7:=zG runUnderlying106 rfl sizeOf104 (by decide) rfl
theorem x3t:zM prog 130 0 0:=zG runUnderlying130 rfl sizeOf127 (by decide) rfl
theorem x3u:zM prog 130 1 1:=zG runUnderlying130 rfl sizeOf128 (by decide) rfl
theorem x3v:zM prog 133 0 0:=zG runUnderlying133 rfl sizeOf9 (by decide) rfl
theorem x3w:zM prog 133 1 1:=zG runUnderlying133 rfl sizeOf131 (by decide) rfl
theorem x3x:zM prog 135 0 0:=zG runUnderlying135 rfl sizeOf9 (by decide) rfl
theorem x3y:zM prog 135 1 1:=zG runUnderlying135 rfl sizeOf25 (by decide) rfl
theorem x4c:zM prog 181 0 0:=zG runUnderlying181 rfl sizeOf9 (by decide) rfl
theorem x4d:zM prog 181 1 1:=zG runUnderlying181 rfl sizeOf42 (by decide) rfl
theorem x4e:zM prog 181 2 4:=zG runUnderlying181 rfl sizeOf179 (by decide) rfl
theorem x4f:zM prog 190 0 0:=zG runUnderlying190 rfl sizeOf9 (by decide) rfl
theorem x4g:zM prog 190 1 1:=zG runUnderlying190 rfl sizeOf135 (by decide) rfl
theorem x4h:zM prog 195 0 0:=zG runUnderlying195 rfl sizeOf9 (by decide) rfl
theorem x4i:zM prog 195 1 1:=zG runUnderlying195 rfl sizeOf25 (by decide) rfl
theorem x4j:zM prog 195 2 2:=zG runUnderlying195 rfl sizeOf66 (by decide) rfl
theorem x4m:zM prog 270 1 1:=zG runUnderlying270 rfl sizeOf31 (by decide) rfl
theorem x4n:zM prog 274 0 0:=zG runUnderlying274 rfl sizeOf3 (by decide) rfl
theorem x4o:zM prog 274 2 2:=zG runUnderlying274 rfl sizeOf9 (by decide) rfl
theorem x4p:zM prog 297 0 0:=zG runUnderlying297 rfl sizeOf9 (by decide) rfl
theorem x4q:zM prog 297 1 1:=zG runUnderlying297 rfl sizeOf3 (by decide) rfl
theorem x4r:zM prog 301 0 0:=zG runUnderlying301 rfl sizeOf297 (by decide) rfl
theorem x4s:zM prog 301 1 2:=zG runUnderlying301 rfl sizeOf298 (by decide) rfl
theorem x4t:zM prog 301 2 3:=zG runUnderlying301 rfl sizeOf299 (by decide) rfl
set_option maxRecDepth 20000 in
theorem q9l:RowT prog 22 133 2 40:=⟨underlying22,⟨_,_,Tryz.type133,rfl,rfl,rfl,rfl⟩,by decide,by decide⟩
set_option maxRecDepth 20000 in
theorem vA:RowT prog 25 9 1 16:=⟨underlying25,⟨_,_,Tryz.type9,rfl,rfl,rfl,rfl⟩,by decide,by decide⟩
set_option maxRecDepth 20000 in
theorem rt_28:RowT prog 28 62 4 64:=⟨underlying28,⟨_,_,Tryz.type62,rfl,rfl,rfl,rfl⟩,by decide,by decide⟩
set_option maxRecDepth 20000 in
theorem wU:RowT prog 38 42 3 48:=⟨underlying38,⟨_,_,Tryz.type42,rfl,rfl,rfl,rfl⟩,by decide,by decide⟩
set_option maxRecDepth 20000 in
theorem pQ:RowT prog 93 3 1 8:=⟨underlying93,⟨_,_,Tryz.type3,rfl,rfl,rfl,rfl⟩,by decide,by decide⟩
set_option maxRecDepth 20000 in
theorem rt_128:RowT prog 128 5 1 1:=⟨underlying128,⟨_,_,Tryz.type5,rfl,rfl,rfl,rfl⟩,by decide,by decide⟩
set_option maxRecDepth 20000 in
theorem rt_299:RowT prog 299 314 2 16:=⟨underlying299,⟨_,_,Tryz.type314,rfl,rfl,rfl,rfl⟩,by decide,by decide⟩
end Go.Sw

namespace Go.Sw
def FO:Option Nat->Fence
 | none=>Fence.wide
 | some l=>Fence.wide.inRound l
section
variable {P:Program} {n m:Nat} {E:List (Nat×Value)} {D:List Deferred} {a:Act} {w:World} {ops:Array Oper} {rest:List Oper} {Q:Exit->Act->World->Prop} {r:Option Nat} {d:Nat} {v:Value} {op:Op} {ty:TypeId} {pos:String} {aft:Array Edge}
theorem FO.calls {f:FuncId} {args:Array Value} {R:Ending->World->Prop} (h:Calls P f args w R):CallsIn (FO r) m P f args w R:=by
 have:=(callsIn_wide (n:=m)).2 h
 cases r with
 | none=>exact this
 | some l=>exact CallsIn.inRound l this
theorem FO.fn (f:FuncId):(FO r).fn f:=by cases r <;> trivial
theorem FO.depth:(FO r).depth.isSome=true->False:=by cases r <;> (intro h;cases h)
theorem z2e {o:Oper} {K:Act->World->Prop} (b:∀c,o.op≠.defer c)
  (h:Oper.eff P o a w (fun v w'=>K (a.put o.dst v) w') (fun c w'=>Q (.panic c) a w')):o.wpIn (FO r) m P a w K Q:=by
 refine ⟨fun f _=>FO.fn f,?_⟩
 rw [Oper.semAt_plain _ _ _ b]
 unfold Oper.eff at h
 generalize (execOp a.eval o).run P w=q at *
 cases q with
 | ok x w'=>
  cases x <;> simp only [pO] at h <;> simp only [Oper.uponIn]
  case value=>exact h
  case skip=>exact h
  case enter f args=>exact ⟨fun d=>(FO.depth d).elim,FO.calls (h.mono fun e w'' J=>by cases e <;> first | exact J | exact J.elim)⟩
 | halt x w'=>cases x <;> simp only [pO] at h;simp only [Oper.uponIn];exact h
theorem j6r {o:Oper} (J:EnvR n E D a) (i:o.dst=some d) (b:Nat.blt d n=true) (j:o.guard=none) (e:∀c,o.op≠.defer c)
  (h:Oper.eff P o a w (fun v w'=>∀a,EnvR n ((d,v)::E) D a->wpListIn (FO r) m P ops Q rest a w') (fun _ _=>False)):wpListIn (FO r) m P ops Q (o::rest) a w:=by
 refine wpListIn_plain j fun L f=>z2e e (qB h (fun v w' k=>f _ _ ?_) (fun c w' g=>g.elim))
 rw [i];exact k _ (J.put b)
theorem in_st0 {o:Oper} (J:EnvR n E D a) (f:o.dst=none) (g:o.guard=none) (b:∀c,o.op≠.defer c)
  (h:Oper.eff P o a w (fun _ w'=>∀a,EnvR n E D a->wpListIn (FO r) m P ops Q rest a w') (fun _ _=>False)):wpListIn (FO r) m P ops Q (o::rest) a w:=by
 refine wpListIn_plain g fun L d=>z2e b (qB h (fun v w' i=>d _ _ ?_) (fun c w' e=>e.elim))
 rw [f];exact i _ J.put_none
theorem mS (J:EnvR n E D a) (b:∀c,op≠.defer c) (f:Ok P a op ty w v) (e:Nat.blt d n=true) (k:∀a,EnvR n ((d,v)::E) D a->wpListIn (FO r) m P ops Q rest a w) :
  wpListIn (FO r) m P ops Q (⟨some d,op,ty,pos,aft,none⟩::rest) a w :=
 j6r J rfl e rfl b (pY f k)
theorem z0j {id:Nat} {l:List Oper} (h:wpListIn (FO none) 3 P l.toArray Q l a w):(Code.region id l.toArray false).wp P Q a w:=wpIn_wide.1 (wpIn_region_lit h)
theorem y4w {y x:Operand} {ts:Array TypeId} {l:Nat} {JJ:World->Prop} (J:EnvR n E D a) (b:Nat.blt d n=true) (p:ev E y=some (.func (.yield l) #[] #[])) (o:ev E x=some v)
  (hr:YieldAt Fence.wide 2 P l #[v] w (fun e w'=>e=.returned (.bool true)/\JJ w')) (k:∀w',JJ w'->∀a,EnvR n ((d,.bool true)::E) D a->wpListIn (FO none) 3 P ops Q rest a w') :
  wpListIn (FO none) 3 P ops Q (⟨some d,.call { callee:=.value y,args:=#[x],argTypes:=ts },ty,pos,aft,none⟩::rest) a w:=by
 obtain ⟨fn,tmps,assign,body,h1,h2⟩:=hr
 refine wpListIn_plain rfl fun L j=>⟨fun f _=>trivial,?_⟩
 rw [Oper.semAt_plain _ _ _ (by intro c h;cases h)]
 have g:(execOp a.eval ⟨some d,.call { callee:=.value y,args:=#[x],argTypes:=ts },ty,pos,aft,none⟩).run P w=.ok (.round l fn tmps assign body) w:=by
  simp only [execOp,resolve,Sem.run_bind,List.map_toArray,List.map_cons,List.map_nil,J.ev o,J.ev p,Deferred.ofValue]
  simp [invoke,Sem.run_bind,Result.andThen,h1]
 rw [g,Oper.uponIn_round]
 refine ⟨fun m=>(by cases m),h2.mono fun e w' he'=>?_⟩
 obtain ⟨rfl,i⟩:=he'
 exact j _ _ (k _ i _ (J.put b))
end
section
variable {P:Program} {V Ψ:Fz} {K:List Res} {w:World}
theorem Mem.putObj {i l:Nat} {o o':Obj} (N:Mem V K w) (b:qH K i=some (.blk l o)):Mem V (wI K i (.blk l o')) (w.putObj l o'):=by
 have hb:l < w.heap.size:=(Array.getElem?_eq_some_iff.1 (N.own _ (yQ b))).1
 exact N.upd b rfl rfl (fun c d a=>World.putObj_heap_other (fun e=>a (by simp [Res.foot,e]))) (World.putObj_heap_same hb) (.inl rfl)
theorem q9k {β γ:Type} {l n:Nat} {r:Loop} {tmps:Array Value} {E:List (Nat×Value)} {E1:β->List (Nat×Value)} {K1:β->List Res} {KO:γ->List Res} (N:Mem V (.blk l (.loop r)::K) w) (b:r.state=.ready) (d:r.pending=none)
  (J:EnvR n E [] ⟨tmps,[]⟩)
  (q:∀a,EnvR n E [] a->r.assign.wpIn (FO (some l)) 2 P (Exit.then (fun j g=>∃y,EnvR n (E1 y) [] j/\Mem V (.blk l (.loop r)::K1 y) g) (fun _ _ _=>False)) a w)
  (s:∀y a w,EnvR n (E1 y) [] a->Mem V (.blk l (.loop { r with state:=.busy })::K1 y) w->r.body.wpIn (FO (some l)) 2 P (fun e _ w=>e=.normal/\∃z,Mem V (.blk l (.loop { r with state:=.busy })::KO z) w) a w) :
  RoundIn Fence.wide 2 P l r.fn tmps r.assign r.body w (fun e w'=>e=.returned (.bool true)/\∃z,Mem V (.blk l (.loop r)::KO z) w'):=by
 refine roundIn_of_wpIn trivial (Code.wpIn_mono (fun e j g h=>?_) (q _ J))
 cases e with
 | normal=>
  obtain ⟨y,h1,h2⟩:=h
  have hl:g.heap[l]? = some (.loop r):=h2.own _ msQ
  refine ⟨_,run_beginRound hl b,?_⟩
  have p:=h2.putObj (i:=0) (o':=.loop { r with state:=.busy }) rfl
  refine Code.wpIn_mono (fun e a2 t h=>?_) (s y _ _ h1 p)
  obtain ⟨rfl,z,k⟩:=h
  have f:t.heap[l]? = some (.loop { r with state:=.busy }):=k.own _ msQ
  refine ⟨_,_,run_endRound none f,rfl,z,?_⟩
  have m:=k.putObj (i:=0) (o':=.loop { ({ r with state:=.busy }:Loop) with state:=.ready,pending:=none }) rfl
  have o:({ ({ r with state:=.busy }:Loop) with state:=.ready,pending:=none }:Loop)=r:=by cases r;simp only at b d;subst b;subst d;rfl
  simp only [wI,o] at m;simpa [o] using m
 | exit id=>exact h.elim
 | goto l=>exact h.elim
 | ret=>exact h.elim
 | panic c=>exact h.elim
 | outgrown=>exact h.elim
theorem j0o {β δ:Type} {n gf:Nat} {E:List (Nat×Value)} {Dd:List Deferred} {a:Act} {g:Operand} {ps:Array Tmp} {assign body:Code} {Q:Exit->Act->World->Prop} {fs cs:List Value} {F1:β->Fz} {KO:β->List Res} {KE:δ->List Res} {G:β->Prop} {B:δ->List PanicEntry->Prop}
  (J:EnvR n E Dd a) (N:Mem V K w) (u:ev E g=some (.func (.func gf) fs.toArray cs.toArray)) (t:∀args w,(callFunc gf args).run P w=.ok (.enter gf args) w)
  (q:∀Dk l r w,r.params=ps->r.assign=assign->r.body=body->r.state=.ready->r.pending=none->EnvR n E [] ⟨r.tmps,[]⟩->Mem V (.blk l (.loop r)::.blk Dk (.deferred (some []))::K) w ->
   Calls P gf (fs++[Value.func (.yield l) #[] #[]]++cs).toArray w (fun e w'=>(∃v y,e=.returned v/\G y/\Mem (F1 y) (.blk l (.loop r)::.blk Dk (.deferred (some []))::KO y) w')∨(∃c z,e=.panicked c/\B z c/\Mem V (.blk Dk (.deferred (some []))::KE z) w')))
  (kn:∀Dk y a w,G y->EnvR n E ({ target:=.collected Dk,args:=#[] }::Dd) a->Mem (F1 y) (.blk Dk (.deferred (some []))::KO y) w->Q .normal a w)
  (kp:∀Dk z c a w,B z c->EnvR n E ({ target:=.collected Dk,args:=#[] }::Dd) a->Mem V (.blk Dk (.deferred (some []))::KE z) w->Q (.panic c) a w):(Code.rangeFunc g ps assign body).wp P Q a w:=by
 refine (wpIn_wide (n:=3)).1 (wpIn_rangeFunc fun fn _=>?_)
 generalize j:((w.alloc (.deferred (some []))).alloc (.loop { state:=.ready,pending:=none,fn,tmps:=a.tmps,params:=ps,assign,body,defers:=w.heap.size }))=f
 have k:Mem V (.blk (w.heap.size+1) (.loop { state:=.ready,pending:=none,fn,tmps:=a.tmps,params:=ps,assign,body,defers:=w.heap.size })::.blk w.heap.size (.deferred (some []))::K) f:=by
  have h1:=N.push (.deferred (some []))
  have h2:=h1.push (.loop { state:=.ready,pending:=none,fn,tmps:=a.tmps,params:=ps,assign,body,defers:=w.heap.size })
  have o:({ w with heap:=w.heap.push (.deferred (some [])) }:World).heap.size=w.heap.size+1:=Array.size_push _
  rw [o] at h2
  rw [<- j];exact h2
 have m:EnvR n E ({ target:=.collected w.heap.size,args:=#[] }::Dd) { a with defers:=[{ target:=.collected w.heap.size,args:=#[] }]++a.defers }:=⟨J.size,J.env,by simp [J.defs]⟩
 have d:=q w.heap.size (w.heap.size+1) { state:=.ready,pending:=none,fn,tmps:=a.tmps,params:=ps,assign,body,defers:=w.heap.size } f rfl rfl rfl rfl rfl ⟨J.size,J.env,rfl⟩ k
 refine ⟨w.heap.size+1,[{ target:=.collected w.heap.size,args:=#[] }],f,{ target:=.fn (.func gf) cs.toArray,args:=(fs++[Value.func (.yield (w.heap.size+1)) #[] #[]]).toArray },f,gf,(fs++[Value.func (.yield (w.heap.size+1)) #[] #[]]++cs).toArray,f,?_,?_,fun f' _=>trivial,?_,fun s=>(by cases s),?_⟩
 ·rw [show Fence.wide.round=none from rfl,run_enterLoop_outer,j]
 ·have h1:=J.ev u
  have h2:a.eval (.const (.func (.yield (w.heap.size+1)) #[] #[]))=.func (.yield (w.heap.size+1)) #[] #[]:=rfl
  simp only [resolve,Sem.run_bind,h1,h2,List.map_toArray,List.map_cons,List.map_nil]
  simp [Deferred.ofValue]
 ·have:=t (fs++[Value.func (.yield (w.heap.size+1)) #[] #[]]++cs).toArray f
  simp only [invoke]
  simpa using this
 ·refine callsIn_wide.2 (d.mono fun e A h=>?_)
  rcases h with ⟨v,y,rfl,hG,b⟩ | ⟨c,z,rfl,p,b⟩
  ·have hl:A.heap[w.heap.size+1]? = _:=b.own _ msQ
   refine ⟨_,_,run_endLoop hl (by intro h;cases h),?_⟩
   exact kn _ y _ _ hG m (b.putObj (i:=0) rfl).tail
  ·exact kp _ z c _ _ p m b
def gN (P:Program) (fn:Func) (tmps:Array Value) (R:Ending->World->Prop) (ds:List Deferred) (u:FrameMode) (w:World):Prop :=
 ∀(fr:Frame) (cs:List Frame),fr.mode=u->fr.defers=ds->fr.tmps=tmps->P.funcs[fr.fn]? = some fn->fr.kind=.normal ->
  ∃e w' fr',R e w'/\Comes P (lone fr cs w) (lone fr' cs w') e/\fr'.fn=fr.fn/\fr'.leaving P w' e
theorem uF {fn:Func} {tmps:Array Value} {R:Ending->World->Prop} {ds:List Deferred} {u:FrameMode} (h:Leaves P fn tmps R ds u w):gN P fn tmps R ds u w :=
 fun fr cs h1 h2 a b c=>leaves_steps ds u w fr cs h1 h2 a b c h
theorem gV {fn:Func} {tmps:Array Value} {R:Ending->World->Prop} {Dk:Nat} {ds:List Deferred} {u:FrameMode} (i:u≠.run) (j:w.heap[Dk]? = some (.deferred (some [])))
  (h:gN P fn tmps R ds u (w.putObj Dk (.deferred none))):gN P fn tmps R ({ target:=.collected Dk,args:=#[] }::ds) u w:=by
 intro fr cs h1 h2 b c d
 have O:=step_collected (P:=P) (cs:=cs) (h1▸i) h2 rfl (run_takeDeferred j)
 obtain ⟨e,w',fr',f,g,a,hl⟩:=h { fr with defers:=[]++ds } cs h1 rfl b c d
 exact ⟨e,w',fr',f,Comes.of_steps (.one O) g,a,hl⟩
def y9z (P:Program) (fn:Func) (R:Ending->World->Prop):Exit->Act->World->Prop
 | .normal,a,w | .ret,a,w=>gN P fn a.tmps R a.defers .returning w
 | .panic chain,a,w=>gN P fn a.tmps R a.defers (.panicking chain) w
 | .outgrown,_,w=>R .outgrown w
 | _,_,_=>False
theorem y8h {f:FuncId} {fn:Func} {c:Code} {args:Array Value} {w:World} {R:Ending->World->Prop}
  (i:P.funcs[f]? = some fn) (hb:fn.body=some c)
  (h:c.wp P (y9z P fn R) { tmps:=args++Array.replicate (fn.ntmps - args.size) undef,defers:=[] } w):Calls P f args w R:=by
 intro cs
 let b:Frame:={ (default:Frame) with fn:=f,kind:=.normal }
 have henter:Frame.enter P f args .normal =
   b.at { tmps:=args++Array.replicate (fn.ntmps - args.size) undef,defers:=[] } [.code c]:=by
  simp [Frame.enter,Frame.at,i,hb,b]
 obtain ⟨e,a',w',hq,a⟩:=h b [] cs
 rw [<- henter] at a
 cases e with
 | normal=>
  obtain ⟨e',w'',fr',g,O,d,hl⟩:=hq { b.at a' [] with mode:=.returning } cs rfl rfl rfl i rfl
  exact ⟨e',w'',fr',g,Comes.of_steps (Steps.trans a (.one step_end)) O,d,hl⟩
 | ret=>
  obtain ⟨todo,hs₀⟩:=a
  obtain ⟨e',w'',fr',g,O,d,hl⟩:=hq { b.at a' todo with mode:=.returning } cs rfl rfl rfl i rfl
  exact ⟨e',w'',fr',g,Comes.of_steps hs₀ O,d,hl⟩
 | panic chain=>
  obtain ⟨todo,hs₀⟩:=a
  obtain ⟨e',w'',fr',g,O,d,hl⟩:=hq { b.at a' todo with mode:=.panicking chain } cs rfl rfl rfl i rfl
  exact ⟨e',w'',fr',g,Comes.of_steps hs₀ O,d,hl⟩
 | exit id=>exact hq.elim
 | goto l=>exact hq.elim
 | outgrown=>exact ⟨.outgrown,w',b,hq,a.resolve_left (by simp [b]),rfl,trivial⟩
theorem enterX {n:Nat} {f:FuncId} {fn:Func} {c:Code} {vs:List Value} {R:Ending->World->Prop} (d:P.funcs[f]? = some fn) (hb:fn.body=some c) (g:fn.ntmps=n) (hl:Nat.ble vs.length n=true)
  (k:∀Q:Exit->Act->World->Prop,(∀e a w,y9z P fn R e a w->Q e a w)->∀a,EnvR n (gO 0 vs) [] a->c.wp P Q a w):Calls P f vs.toArray w R:=by
 have hl':vs.length<=n:=by simpa using hl
 refine y8h d hb (k _ (fun _ _ _ h=>h) _ ⟨by simp [g];omega,fun t v i=>?_,rfl⟩)
 obtain ⟨_,h2⟩:=dA vs 0 t v i
 simp only [Nat.sub_zero] at h2
 have b:t < vs.length:=(List.getElem?_eq_some_iff.1 h2).1
 simp only [List.getElem?_toArray,Array.getElem?_append,List.size_toArray,b,↓reduceIte]
 exact h2
end
theorem aM {P:Program} {n:Nat} {E:List (Nat×Value)} {a:Act} {w:World} {fn:Func} {R:Ending->World->Prop} (J:EnvR n E [] a) (hr:fn.results=#[]) (h:R (.returned (.tuple #[])) w):bodyPost P fn R .normal a w :=
 ⟨J.defs,.tuple #[],by simp [results,hr],h⟩
section
variable {P:Program} {n:Nat} {E:List (Nat×Value)} {D:List Deferred} {a:Act} {w:World} {ops:Array Oper} {rest:List Oper} {Q:Exit->Act->World->Prop} {ty:TypeId} {pos:String} {aft:Array Edge}
theorem z1z {y:Operand} {fv:Fn} {fs cs vs:List Value} {xs:Array Operand} {ts:Array TypeId} (J:EnvR n E D a) (d:ev E y=some (.func fv fs.toArray cs.toArray)) (c:evs E xs.toList=some vs)
  (k:∀a,EnvR n E ({ target:=.fn fv cs.toArray,args:=(fs++vs).toArray }::D) a->wpList P ops Q rest a w) :
  wpList P ops Q (⟨none,.defer { callee:=.value y,args:=xs,argTypes:=ts },ty,pos,aft,none⟩::rest) a w:=by
 refine wpList_plain rfl fun L b=>?_
 unfold Oper.wp
 simp only [execOp,resolve,J.evsA c,J.ev d,Deferred.ofValue]
 refine b _ _ (k _ ⟨J.size,J.env,?_⟩)
 simp [Act.put,J.defs]
end
section
variable {P:Program} {n:Nat} {E:List (Nat×Value)} {D:List Deferred} {a:Act} {w:World} {ty:TypeId}
theorem y7w {x:Operand} {t t0:TypeId} {d:TypeDesc} {v:Value} (J:EnvR n E D a) (e:ev E x=some (.iface t v)) (c:Under P t d) (b:∀ms,d≠.interface ms) :
  Ok P a (.typeAssert x t0 t true) ty w (.tuple #[v,.bool true]):=fun _ _ _ _=>by
 simp only [execOp,J.ev e,Instr.typeAssert]
 simp only [Sem.run_bind,c _,Result.andThen,if_true]
 cases d <;> first | (exact absurd rfl (b _)) | simp [Sem.run_bind,Result.andThen]
end
section
variable {P:Program} {n:Nat} {E:List (Nat×Value)} {D:List Deferred} {a:Act} {w:World} {d:Nat} {ops:Array Oper} {rest:List Oper} {Q:Exit->Act->World->Prop}
theorem stP {o:Oper} (J:EnvR n E D a) (g:o.dst=some d) (b:Nat.blt d n=true) (i:o.guard=none)
  (h:Oper.eff P o a w (fun v w'=>∀a,EnvR n ((d,v)::E) D a->wpList P ops Q rest a w') (fun c w'=>∀a,EnvR n E D a->Q (.panic c) a w')):wpList P ops Q (o::rest) a w:=by
 refine wpList_plain i fun L e=>cS (qB h (fun v w' j=>e _ _ ?_) (fun c w' f=>f _ J))
 rw [g];exact j _ (J.put b)
end
theorem z6p {P:Program} {fn:Func} {n:Nat} {E:List (Nat×Value)} {D:List Deferred} {a:Act} {V:Fz} {K:List Res} {w:World} {t T b i:Nat} {cs:List Value} {c:TypeId} {v:Value} (J:EnvR n E D a) (N:Sees V K w) (hr:fn.results=#[.cell t T]) (g:get E t=some (.pointer (some ⟨b,0,none⟩)))
  (f:qH K i=some (.blk b (ob cs c))) (e:nth cs 0=some v) (d:Scalar P T):(results fn a.tmps).run P w=.ok v w:=by
 have h1:=N.cell f 0
 rw [e] at h1
 simp [results,hr,Array.getD_eq_getD_getElem?,J.env t _ g,asAddr,loadVar,Sem.run_bind,d w,Result.andThen,load,Sem.run,h1]
section
variable {P:Program} {n:Nat} {E:List (Nat×Value)} {D:List Deferred} {a:Act} {V:Fz} {K:List Res} {w:World}
theorem j5v {t T b k i:Nat} {cs:List Value} {c:TypeId} (J:EnvR n E D a) (N:Sees V K w) (l:get E t=some (.pointer (some ⟨b,0,none⟩)))
  (h:qH K i=some (.blk b (ob cs c))) (e:AggT P T) (d:SizeT P T k) (hl:cs.length=k):(loadVar T ⟨b,0,none⟩).run P w=.ok (.agg cs.toArray) w:=by
 have f:∀j v,cs[j]? = some v->w.cell? ((⟨b,0,none⟩:Addr).add j)=some v:=fun j v g=>by
  have h1:=N.cell h j
  rw [z4n,g] at h1
  unfold Addr.add;split
  ·subst_vars;exact h1
  ·simpa using h1
 have h2:=run_loadCells_list (P:=P) (w:=w) ⟨b,0,none⟩ cs f
 rw [hl] at h2
 simp [loadVar,Sem.run_bind,e w,d w,h2,Result.andThen]
end
section
variable {P:Program} {n:Nat} {E:List (Nat×Value)} {D:List Deferred} {a:Act} {V Ψ:Fz} {K:List Res} {w:World}
theorem Mem.freezeMap {b i:Nat} {m:List (Bs×Value)} (N:Mem V K w) (c:qH K i=some (.mp b m)):∃Ψ,V.Le Ψ/\Mem Ψ (dJ K i) w/\MapAt Ψ b m:=by
 have h:=N.pull c
 obtain ⟨es,clock,d,a⟩:=N.own _ (yQ c)
 exact ⟨_,Fz.le_add (h.no rfl) _,h.freezeHead (b:=b) rfl d,es,clock,by simp [Fz.add],a⟩
theorem q9h {fn:Func} {t u x T U k i j b c:Nat} {v y:Value} {cs:List Value} {g h:TypeId} (J:EnvR n E D a) (N:Sees V K w) (hr:fn.results=#[.tmp x,.cell t T,.cell u U]) (r:get E x=some y) (q:get E t=some (.pointer (some ⟨b,0,none⟩)))
  (p:qH K i=some (.blk b (ob [v] g))) (o:Scalar P T) (f:get E u=some (.pointer (some ⟨c,0,none⟩))) (e:qH K j=some (.blk c (ob cs h))) (d:AggT P U) (m:SizeT P U k) (hl:cs.length=k) :
  (results fn a.tmps).run P w=.ok (.tuple #[y,v,.agg cs.toArray]) w:=by
 have h1:w.cell? ⟨b,0,none⟩=some v:=N.cell p 0
 have h2:=j5v (P:=P) J N f e d m hl
 have l:(loadVar T ⟨b,0,none⟩).run P w=.ok v w:=by simp [loadVar,Sem.run_bind,o w,Result.andThen,load,Sem.run,h1]
 simp [results,hr,Array.getD_eq_getD_getElem?,J.env t _ q,J.env u _ f,J.env x _ r,asAddr,h2,l,Sem.run_bind,Result.andThen]
end
theorem j9c {P:Program} {n:Nat} {E:List (Nat×Value)} {D:List Deferred} {a:Act} {w:World} {Kn:Value->World->Prop} {Qp:List PanicEntry->World->Prop} {dst:Option Tmp} {ty:TypeId} {pos:String} {aft:Array Edge} {g:Option (Nat×Bool)}
  {α β ε δ:Type} {f:FuncId} {xs:Array Operand} {ts:Array TypeId} {vs:List Value} {r:Except ε α} {X:α->β->Value} {Z:ε->δ->Value} {b d:Fz} {KO:α->β->List Res} {KE:ε->δ->List Res}
  (J:EnvR n E D a) (l:evs E xs.toList=some vs) (j:∀args w,(callFunc f args).run P w=.ok (.enter f args) w)
  (i:Calls P f vs.toArray w (fun e w'=>Out r (fun x=>∃y,e=.returned (X x y)/\Mem b (KO x y) w') (fun c=>∃y,e=.returned (Z c y)/\Mem d (KE c y) w')))
  (k:∀x y w',r=.ok x->Mem b (KO x y) w'->Kn (X x y) w') (kp:∀c y w',r=.error c->Mem d (KE c y) w'->Kn (Z c y) w') :
  Oper.eff P ⟨dst,.call { callee:=.value (.func f),args:=xs,argTypes:=ts },ty,pos,aft,g⟩ a w Kn Qp:=by
 refine aD J l j i (fun v w' h=>?_) (fun c w' h=>?_) (fun w' h=>?_)
 ·cases r with
  | ok x=>obtain ⟨y,h1,h2⟩:=h;cases h1;exact k _ _ _ rfl h2
  | error c=>obtain ⟨y,h1,h2⟩:=h;cases h1;exact kp _ _ _ rfl h2
 ·cases r with
  | ok x=>obtain ⟨y,h1,_⟩:=h;cases h1
  | error c=>obtain ⟨y,h1,_⟩:=h;cases h1
 ·cases r with
  | ok x=>obtain ⟨y,h1,_⟩:=h;cases h1
  | error c=>obtain ⟨y,h1,_⟩:=h;cases h1
end Go.Sw

namespace Go.Sw
open Go.Proofs.Tryz
open Go.Proofs
theorem enterD {P:Program} {n:Nat} {w:World} {f:FuncId} {fn:Func} {c:Code} {vs:List Value} {R:Ending->World->Prop} (d:P.funcs[f]? = some fn) (hb:fn.body=some c) (g:fn.ntmps=n) (hl:Nat.ble vs.length n=true)
  (k:∀Q:Exit->Act->World->Prop,(∀e a w,bodyPostD P fn R e a w->Q e a w)->∀a,EnvR n (gO 0 vs) [] a->c.wp P Q a w):Calls P f vs.toArray w R:=by
 have hl':vs.length<=n:=by simpa using hl
 refine calls_of_wp_defers d hb (k _ (fun _ _ _ h=>h) _ ⟨by simp [g];omega,fun t v i=>?_,rfl⟩)
 obtain ⟨_,h2⟩:=dA vs 0 t v i
 simp only [Nat.sub_zero] at h2
 have b:t < vs.length:=(List.getElem?_eq_some_iff.1 h2).1
 simp only [List.getElem?_toArray,Array.getElem?_append,List.size_toArray,b,↓reduceIte]
 exact h2
abbrev spentV:Value:=.iface 177 (.agg #[])
set_option maxRecDepth 20000 in
set_option maxHeartbeats 4000000 in
theorem q6l {V:Fz} {K:List Res} {w:World} {b:Nat} (N:Mem V (.blk b (ob [.int .i64 ((0:Nat):Int)] 31)::K) w) :
  CallsD prog 102 #[.pointer (some ⟨b,0,none⟩)] (.panicking (sT ())) w fun e u' w'=>
   e=.returned (.tuple #[])/\u'=.panicking [{ v:=spentV,recovered:=true }]/\Mem V (.blk b (ob [.int .i64 ((4:Nat):Int)] 31)::K) w':=by
 generalize j:(fun (e:Ending) (u':FrameMode) (w':World)=>e=.returned (.tuple #[])/\u'=.panicking [{ v:=spentV,recovered:=true }]/\Mem V (.blk b (ob [.int .i64 ((4:Nat):Int)] 31)::K) w')=R
 refine callsD_of_wpS func102 rfl fun c₀ cs m=>?_
 apply wpS_seq
 apply wpS_region
 show wpOpsS prog _ _ [0,1] _ _ _
 simp [wpOpsS,go_sem,recoverD,m,ntmps102,Exit.thenS,sT]
 refine wpS_of_wp ?_
 generalize k:(_::cs:List Frame)=cs'
 have hQ:∀(a:Act) (w':World),a.defers=[]->Mem V (.blk b (ob [.int .i64 ((4:Nat):Int)] 31)::K) w'->bodyPostS prog Tryz.f102 c₀ cs R .normal a cs' w':=fun a w' l N=>
  ⟨l,.panicking [{ v:=spentV,recovered:=true }],k.symm,.tuple #[],results_none rfl _ _ _,by subst j;exact ⟨rfl,rfl,N⟩⟩
 generalize c:(Act.mk _ [])=a
 have J:EnvR 15 [(1,spentV),(0,.pointer (some ⟨b,0,none⟩))] [] a:=by
  subst c
  refine ⟨rfl,fun t v h=>?_,rfl⟩
  obtain ⟨rfl,rfl⟩ | ⟨_,h⟩:=wK h
  ·rfl
  ·obtain ⟨rfl,rfl⟩ | ⟨_,h⟩:=wK h
   ·rfl
   ·cases h
 clear c
 refine sq fun n d=>?_
 refine wp_region_lit ?_
 refine jS J (xZ J rfl) rfl fun a J=>?_
 refine jS J (nT (v:=.bool true) J rfl rfl rfl (by kernel_rfl)) rfl fun a J=>?_
 refine wpList_nil ?_
 apply d
 refine if_t J rfl ?_
 refine sq fun o f=>?_
 refine sq fun p g=>?_
 refine wp_region_lit ?_
 refine jS J (xZ J rfl) rfl fun a J=>?_
 refine jS J (y7w J rfl runUnderlying177 (by intro ms h;cases h)) rfl fun a J=>?_
 refine jS J (xZ J rfl) rfl fun a J=>
  jS J (cV J rfl rfl) rfl fun a J=>
  jS J (cV J rfl rfl) rfl fun a J=>?_
 refine st J rfl rfl rfl (wN (cs:=[]) N zeroValue177 rfl fun r w N a J=>?_)
 refine st0 J rfl rfl (qF 0 (cs:=[]) (vs:=[]) J N rfl rfl rfl rfl sizeOf177 rfl rfl rfl fun w N a J=>?_)
 refine jS J (dV J rfl) rfl fun a J=>?_
 refine wpList_nil ?_
 apply g
 refine sq fun q i=>?_
 refine wp_region_lit ?_
 refine jS J (xZ J rfl) rfl fun a J=>
  jS J (q3a J rfl) rfl fun a J=>?_
 refine wpList_nil ?_
 apply i
 refine if_f J rfl ?_
 refine wp_skip ?_
 apply f
 refine wp_region_lit ?_
 refine st0 J rfl rfl (qF 1 (cs:=[.int .i64 ((0:Nat):Int)]) (vs:=[.int .i64 ((4:Nat):Int)]) J N rfl rfl rfl rfl sizeOf31 rfl rfl rfl fun w N a J=>?_)
 refine wpList_nil ?_
 replace N:Mem V (.blk b (ob [.int .i64 ((4:Nat):Int)] 31)::K) w:=N.del 0
 exact hQ _ _ J.defs N
set_option maxRecDepth 20000 in
theorem catch_idle {w:World} {b:Nat} :
  CallsD prog 102 #[.pointer (some ⟨b,0,none⟩)] .returning w fun e u' w'=>e=.returned (.tuple #[])/\u'=.returning/\w'=w:=by
 generalize g:(fun (e:Ending) (u':FrameMode) (w':World)=>e=.returned (.tuple #[])/\u'=.returning/\w'=w)=R
 refine callsD_of_wpS func102 rfl fun c₀ cs f=>?_
 apply wpS_seq
 apply wpS_region
 show wpOpsS prog _ _ [0,1] _ _ _
 simp [wpOpsS,go_sem,recoverD,f,ntmps102,Exit.thenS,sT]
 refine wpS_of_wp ?_
 have hQ:∀(a:Act),a.defers=[]->bodyPostS prog Tryz.f102 c₀ cs R .normal a (c₀::cs) w:=fun a i=>
  ⟨i,.returning,by cases c₀;simp only at f;subst f;rfl,.tuple #[],results_none rfl _ _ _,by subst g;exact ⟨rfl,rfl,rfl⟩⟩
 generalize c:(Act.mk _ [])=a
 have J:EnvR 15 [(1,.nilIface),(0,.pointer (some ⟨b,0,none⟩))] [] a:=by
  subst c
  refine ⟨rfl,fun t v h=>?_,rfl⟩
  obtain ⟨rfl,rfl⟩ | ⟨_,h⟩:=wK h
  ·rfl
  ·obtain ⟨rfl,rfl⟩ | ⟨_,h⟩:=wK h
   ·rfl
   ·cases h
 clear c
 refine sq fun j d=>?_
 refine wp_region_lit ?_
 refine jS J (xZ J rfl) rfl fun a J=>?_
 refine jS J (nT (v:=.bool false) J rfl rfl rfl (by kernel_rfl)) rfl fun a J=>?_
 refine wpList_nil ?_
 apply d
 refine if_f J rfl ?_
 refine wp_skip ?_
 exact hQ _ J.defs
set_option maxRecDepth 20000 in
set_option maxHeartbeats 1000000 in
theorem q2s {α β:Type} {r:Except Nat α} {g:FuncId} {cs:List Value} {V:Fz} {p K:List Res} {w:World} {F:α->β->Fz} {KO:α->β->List Res} {G:α->β->Prop}
  (k:∀args w,(callFunc g args).run prog w=.ok (.enter g args) w)
  (s:∀b w,Mem V (.blk b (ob [.int .i64 ((0:Nat):Int)] 31)::p) w->Calls prog g cs.toArray w (fun e w'=>Out r
   (fun x=>∃y,e=.returned (.int .i64 ((0:Nat):Int))/\G x y/\Mem (F x y) (.blk b (ob [.int .i64 ((0:Nat):Int)] 31)::KO x y) w')
   (fun c=>(e=.returned (.int .i64 ((c:Nat):Int))∨c=4/\e=.panicked (sT ()))/\Mem V (.blk b (ob [.int .i64 ((0:Nat):Int)] 31)::K) w')))
  (N:Mem V p w):Calls prog 45 #[.func (.func g) #[] cs.toArray] w (fun e w'=>Out r
   (fun x=>∃y,e=.returned (.int .i64 ((0:Nat):Int))/\G x y/\Mem (F x y) (KO x y) w')
   (fun c=>e=.returned (.int .i64 ((c:Nat):Int))/\Mem V K w')):=by
 refine enterD func45 rfl ntmps45 rfl (fun Q hQ a J=>?_)
 refine sq fun t n=>?_
 refine wp_region_lit ?_
 refine st J rfl rfl rfl (wN (cs:=[.int .i64 ((0:Nat):Int)]) N zeroValue31 rfl fun b w N a J=>?_)
 refine wpList_nil ?_
 apply n
 refine sq fun u o=>?_
 refine wp_region_lit ?_
 refine jS J (z0k (vfs:=[]) (vcs:=[.pointer (some ⟨b,0,none⟩)]) J rfl rfl) rfl fun a J=>?_
 refine z1z (fs:=[]) (cs:=[.pointer (some ⟨b,0,none⟩)]) (vs:=[]) J rfl rfl fun a J=>?_
 refine wpList_nil ?_
 apply o
 refine sq fun z j=>?_
 refine wp_region_lit ?_
 refine jS J (xZ J rfl) rfl fun a J=>?_
 have d:∀(a:Act) (w:World) (c:Int) (m:Fz) (K1:List Res) (E:List (Nat×Value)),EnvR 6 E [{ target:=.fn (.func 102) #[.pointer (some ⟨b,0,none⟩)],args:=#[] }] a->get E 2=some (.pointer (some ⟨b,0,none⟩)) ->
   Mem m (.blk b (ob [.int .i64 c] 31)::K1) w ->
   (Out r (fun x=>∃y,Ending.returned (.int .i64 c)=.returned (.int .i64 ((0:Nat):Int))/\G x y/\Mem (F x y) (KO x y) w) (fun c'=>Ending.returned (.int .i64 c)=.returned (.int .i64 ((c':Nat):Int))/\Mem V K w))->Q .ret a w:=by
  intro a w c m K1 E J k N q
  refine hQ _ _ _ ?_
  show Leaves _ _ _ _ a.defers _ _
  rw [J.defs]
  refine leaves_cons (f:=102) (args:=#[.pointer (some ⟨b,0,none⟩)]) (by simp) (call102 _ _) ?_
  refine catch_idle.mono ?_
  rintro e u' w'' ⟨rfl,rfl,rfl⟩
  exact ⟨.int .i64 c,z6p (i:=0) J N.toSees results45 k rfl rfl isAgg31,q⟩
 have l:∀(a:Act) (w:World) (E:List (Nat×Value)),EnvR 6 E [{ target:=.fn (.func 102) #[.pointer (some ⟨b,0,none⟩)],args:=#[] }] a->get E 2=some (.pointer (some ⟨b,0,none⟩)) ->
   Mem V (.blk b (ob [.int .i64 ((0:Nat):Int)] 31)::K) w->r=.error 4->Q (.panic (sT ())) a w:=by
  intro a w E J k N hr
  refine hQ _ _ _ ?_
  show Leaves _ _ _ _ a.defers _ _
  rw [J.defs]
  refine leaves_cons (f:=102) (args:=#[.pointer (some ⟨b,0,none⟩)]) (by simp) (call102 _ _) ?_
  refine (q6l N).mono ?_
  rintro e u' w'' ⟨rfl,rfl,N⟩
  refine ⟨.int .i64 ((4:Nat):Int),z6p (i:=0) J N.toSees results45 k rfl rfl isAgg31,?_⟩
  subst hr
  exact ⟨rfl,N.del 0⟩
 refine stP J rfl rfl rfl (z8c J rfl rfl k (s b w N) (fun v w h a J=>?_) (fun c w h a J=>?_) (fun w h=>?_))
 ·cases hr:r with
  | ok x=>
   rw [hr] at h
   obtain ⟨y,h1,h2,N⟩:=h
   cases h1
   refine st0 J rfl rfl (qF 0 (cs:=[.int .i64 ((0:Nat):Int)]) (vs:=[.int .i64 ((0:Nat):Int)]) J N rfl rfl rfl rfl sizeOf31 rfl rfl rfl fun w N a J=>?_)
   refine wpList_nil ?_
   apply j
   refine wp_ret ?_
   exact d a w _ _ (KO x y) _ J rfl N (by rw [hr];exact ⟨y,rfl,h2,N.del 0⟩)
  | error c=>
   rw [hr] at h
   obtain ⟨h1 | h1,N⟩:=h
   ·cases h1
    refine st0 J rfl rfl (qF 0 (cs:=[.int .i64 ((0:Nat):Int)]) (vs:=[.int .i64 c]) J N rfl rfl rfl rfl sizeOf31 rfl rfl rfl fun w N a J=>?_)
    refine wpList_nil ?_
    apply j
    refine wp_ret ?_
    exact d a w _ _ K _ J rfl N (by rw [hr];exact ⟨rfl,N.del 0⟩)
   ·cases h1.2
 ·cases hr:r with
  | ok x=>
   rw [hr] at h
   obtain ⟨y,h1,_⟩:=h
   cases h1
  | error c'=>
   rw [hr] at h
   obtain ⟨h1 | h1,N⟩:=h
   ·cases h1
   ·obtain ⟨rfl,h1⟩:=h1
    cases h1
    exact l a w _ J rfl N hr
 ·cases hr:r with
  | ok x=>rw [hr] at h;obtain ⟨y,h1,_⟩:=h;cases h1
  | error c'=>
   rw [hr] at h
   obtain ⟨h1 | h1,N⟩:=h
   ·cases h1
   ·cases h1.2
end Go.Sw

namespace Go.Sw
open Go.Proofs
structure Outcome where
 outputs:List Named
 steps:Int
def ROutcome (V:Fz) (cs:List Value) (o:Outcome):Prop:=∃s,cs=[s,.int .i64 o.steps]/\SliceOf RNamed V 4 s o.outputs
def y9g:Outcome:=⟨[],0⟩
def mE (os:List Bs) (xs:List Val):List Named:=List.zipWith Named.mk os xs
theorem x0o {os:List Bs} {xs:List Val} {i:Nat} {o:Bs} {x:Val} (h1:os[i]? = some o) (h2:xs[i]? = some x):(mE os xs)[i]? = some ⟨o,x⟩:=by
 simp [mE,List.getElem?_zipWith,h1,h2]
theorem x0n {os:List Bs} {xs:List Val} {i:Nat} (h:¬i < xs.length):(mE os xs).take i=mE os xs:=List.take_of_length_le (by simp [mE];omega)
theorem oA {C:Ctx} {o:Bs} {os:List Bs} {f:Fun} {g:Nat} (h:zW C.funs o=some f):vR C (o::os) g=(vN (jR C) f [] g).bind fun v g=>(vR C os g).bind fun l g=>.ok (v::l) g:=by
 simp only [vR,h]
theorem y5v {C:Ctx} {o:Bs} {os:List Bs} {g:Nat} (h:zW C.funs o=none):vR C (o::os) g=.stuck:=by
 simp only [vR,h]
theorem yG {C:Ctx} {o:Bs} {os:List Bs} {f:Fun} {g1 a:Nat} {z:Val} {xs:List Val} (h:zW C.funs o=some f) (b:vN (jR C) f [] g1=.ok z a) :
  (vR C (o::os) g1).bind (fun vs g=>.ok (xs++vs) g)=(vR C os a).bind fun vs g=>.ok ((xs++[z])++vs) g:=by
 rw [oA h,b]
 simp only [Ev.bind]
 cases vR C os a <;> simp
theorem gY {C:Ctx} {o:Bs} {os:List Bs} {f:Fun} {g1:Nat} {xs:List Val} (h:zW C.funs o=some f) (a:vN (jR C) f [] g1=.spent) :
  (vR C (o::os) g1).bind (fun vs g=>.ok (xs++vs) g)=.spent:=by
 rw [oA h,a];rfl
theorem q8p {C:Ctx} {g1:Nat} {xs:List Val}:(vR C [] g1).bind (fun vs g=>.ok (xs++vs) g)=.ok xs g1:=by simp [vR,Ev.bind]
def y4e (r:Ev (List Val)):Except Nat (List Val×Nat):=match r with
 | .ok vs g=>if vs.any mD then .error 7 else .ok (vs,g)
 | _=>.error 4
theorem j1u {r:Ev (List Val)} {vs:List Val} {g:Nat} (h:r=.ok vs g) (hl:vs.any mD=true):y4e r=.error 7:=by subst h;simp only [y4e,hl,if_true]
theorem endP_ok {r:Ev (List Val)} {vs:List Val} {g:Nat} (h:r=.ok vs g) (hl:vs.any mD=false):y4e r=.ok (vs,g):=by subst h;simp only [y4e,hl];rfl
theorem uA {r:Ev (List Val)} (h:r=.spent):y4e r=.error 4:=by subst h;rfl
theorem endOut {r:Except Nat (List Val×Nat)} {x:List Val×Nat} {A:List Val×Nat->Prop} {B:Nat->Prop} (h:r=.ok x) (a:A x):Out r A B:=by subst h;exact a
theorem z5s {r:Except Nat (List Val×Nat)} {x:Nat} {A:List Val×Nat->Prop} {B:Nat->Prop} (h:r=.error x) (a:B x):Out r A B:=by subst h;exact a
def z3j (c:Core) (l:List Named) (fuel:Int):Outcome×Int :=
 if qL c≠0 then (y9g,qL c)
 else if fuel < 0∨200000 < fuel then (y9g,1)
 else if z1c (zN c) l c.inputs=false then (y9g,8)
 else match y4e (vR ⟨(zN c).funs,inpP l⟩ c.outputs fuel.toNat) with
  | .ok (vs,g)=>(⟨mE c.outputs vs,((fuel.toNat - g:Nat):Int)⟩,0)
  | .error e=>(y9g,((e:Nat):Int))
theorem qQ (l:List Int) (x:Int):z3i (l++[x])=z3i l++[.int .i64 x]:=by simp [z3i]
end Go.Sw

namespace Go.Sw
open Go.Proofs.Tryz
open Go.Proofs
def Fz.whole (W:World):Fz:=⟨fun b=>W.heap[b]?,W.os,W.output⟩
theorem Mem.whole (W:World):Mem (Fz.whole W) [] W :=
 { fz:=fun _ _ h=>h,own:=fun _ h=>(by cases h),os:=rfl,out:=rfl,nodup:=List.nodup_nil,apart:=fun _ h=>(by cases h) }
theorem y2n {W:World} {a:Addr} {v:Value} (h:W.cell? a=some v):a.spot=none/\∃arr T fr,W.heap[a.block]? = some (.cells arr T fr)/\arr[a.off]? = some v:=by
 unfold World.cell? at h
 split at h
 ·rename_i c T fr J
  split at h
  ·cases h
  ·rename_i O
   refine ⟨?_,c,T,fr,J,h⟩
   cases hq:a.spot with
   | none=>rfl
   | some x=>simp [hq] at O
 ·cases h
theorem x2n {W:World} {a:Addr} {cells:List Value} (b:cells≠[]) (h:∀(j:Nat) (v:Value),cells[j]? = some v->W.cell? (a.add j)=some v):At (Fz.whole W) a cells:=by
 obtain ⟨v0,r,rfl⟩:=List.exists_cons_of_ne_nil b
 obtain ⟨O,arr,T,fr,hb,c⟩:=y2n (h 0 v0 rfl)
 rw [show a.add 0=a from rfl] at O hb c
 refine ⟨O,arr,T,fr,hb,fun j v d=>?_⟩
 obtain ⟨_,arr',T',fr',hb',h1⟩:=y2n (h j v d)
 have eb:(a.add j).block=a.block:=by unfold Addr.add;split <;> rfl
 have eo:(a.add j).off=a.off+j:=by unfold Addr.add;split <;> simp_all
 rw [eb,hb] at hb'
 simp only [Option.some.injEq,Obj.cells.injEq] at hb'
 rw [eo,<- hb'.1] at h1
 exact h1
section
variable {H:Type} {enc:TypeId×Value->H} {W:World}
theorem c9:prog.cellsOf 9=1:=by kernel_rfl
theorem c3:prog.cellsOf 3=1:=by kernel_rfl
theorem c66:prog.cellsOf 66=5:=by kernel_rfl
theorem c195:prog.cellsOf 195=7:=by kernel_rfl
theorem c42:prog.cellsOf 42=3:=by kernel_rfl
theorem c62:prog.cellsOf 62=4:=by kernel_rfl
theorem c72:prog.cellsOf 72=2:=by kernel_rfl
theorem c135:prog.cellsOf 135=2:=by kernel_rfl
theorem c68:prog.cellsOf 68=8:=by kernel_rfl
theorem c27:prog.cellsOf 27=4:=by kernel_rfl
theorem c25:prog.cellsOf 25=1:=by kernel_rfl
theorem c63:prog.cellsOf 63=1:=by kernel_rfl
theorem c64:prog.cellsOf 64=1:=by kernel_rfl
theorem c38:prog.cellsOf 38=1:=by kernel_rfl
theorem c23:prog.cellsOf 23=1:=by kernel_rfl
theorem c22:prog.cellsOf 22=1:=by kernel_rfl
theorem c24:prog.cellsOf 24=1:=by kernel_rfl
end
end Go.Sw

namespace Go.Proofs.YtgkhcfjooiekkaaGreatDoor
open Go.ChangeShapes Go.WideShapes Go.ChangeAt Go.RowKit Go.Sw
theorem own:ownKnob Tryz.prog.godebug=none:=by kernel_rfl
theorem laidOut:laidOutB Tryz.prog=true:=by kernel_rfl
abbrev laidAll:List (String×DataW Unit):=Rows.coreFuelRow.laid
theorem q6n {W:World} {g:Nat} {cs:List Value} (h:∀(i:Nat) (v:Value),cs[i]? = some v->W.cell? ⟨g,i,none⟩=some v) (a:cs≠[]):At (Fz.whole W) ⟨g,0,none⟩ cs :=
 x2n a fun j v b=>by
  have:=h j v b
  have e:(⟨g,0,none⟩:Addr).add j=⟨g,j,none⟩:=by unfold Addr.add;split <;> simp_all
  rw [e];exact this
theorem x0k {W:World} (b:W.ShapedOpen Tryz.prog):∃m,At (Fz.whole W) ⟨0,0,none⟩ [.int .i64 m]:=by
 obtain ⟨m,N⟩:=cell_of_shapedOpen_int (P:=Tryz.prog) (g:=0) (t:=3) (k:=.i64) (zero:=#[.int .i64 0]) b (of_decide_eq_true (by kernel_rfl)) (by kernel_rfl) rfl (by kernel_rfl) (by kernel_rfl) (by kernel_rfl)
 exact ⟨m,q6n (fun i v a=>by
  cases i with
  | zero=>simp at a;subst a;exact N
  | succ i=>simp at a) (by simp)⟩
theorem j7p {W:World} (c:laidMet Tryz.prog laidAll W):Tabs (Fz.whole W):=by
 have h2:laidMet Tryz.prog (("internal/strconv.uint64pow10",Lib.tabData .u64 Lib.pow10Tab)::_) W:=c.tail.tail
 have a:=Lib.tabIs_of_head (P:=Tryz.prog) (g:=1) (t:=291) (e:=241) (n:=20) (by kernel_rfl) (by kernel_rfl) (by kernel_rfl) (by kernel_rfl) (by kernel_rfl) (by kernel_rfl) h2
 intro w O
 unfold Lib.TabIs at a ⊢
 unfold World.var? at a ⊢
 cases b:Tryz.prog.globalNamed "internal/strconv.uint64pow10" with
 | none=>rw [b] at a;cases a
 | some g=>
  rw [b] at a
  simp only [Option.bind_some] at a ⊢
  split at a
  ·rename_i cs t fr J
   rw [O.fz g _ J]
   exact a
  ·cases a
theorem err_at {W:World} {n:String} {d:DataW Unit} {g:Nat} {r:List (String×DataW Unit)} (h:laidMet Tryz.prog ((n,d)::r) W) (f:Tryz.prog.globalNamed n=some g) (l:(Tryz.prog.globals[g]?).map (·.type)=some 138):ErrAt (Fz.whole W) g:=by
 obtain ⟨ps,⟨g',t',cs,fuel,p,q,hg',ht',a,b,_,_⟩,_⟩:=h
 obtain rfl:=Option.some.inj (f.symm.trans hg')
 obtain rfl:=Option.some.inj (l.symm.trans ht')
 have key:∃v,cs.toList=[v]/\(v=.nilIface∨∃t p,v=.iface t p):=by
  cases fuel with
  | zero=>simp [DataW.trod] at b
  | succ fuel=>
   unfold DataW.trod at b
   generalize j:Tryz.prog.underlying 138=u at b
   have e:∃ms,u=some (.interface ms):=⟨_,j.symm.trans Tryz.underlying138⟩
   clear j
   obtain ⟨ms,rfl⟩:=e
   split at b <;> simp_all
 obtain ⟨v,m,k⟩:=key
 refine ⟨v,q6n (fun i u c=>?_) (by simp),k⟩
 cases i with
 | zero=>
  simp at c;subst c
  have:=World.var?_cell f a 0
  rw [this,<- Array.getElem?_toList,m]
  rfl
 | succ i=>simp at c
theorem glob_of {W:World} (b:W.ShapedOpen Tryz.prog) (a:laidMet Tryz.prog laidAll W):Glob (Fz.whole W) :=
 ⟨x0k b,j7p a,err_at (g:=4) a.tail.tail.tail.tail.tail (by kernel_rfl) (by kernel_rfl),err_at (g:=5) a.tail.tail.tail.tail (by kernel_rfl) (by kernel_rfl)⟩
end Go.Proofs.YtgkhcfjooiekkaaGreatDoor

namespace Go.Proofs.YtgkhcfjooiekkaaGreatDoor
open Go.ChangeShapes Go.WideShapes Go.ChangeAt Go.RowKit Go.Sw
set_option maxRecDepth 100000
section
variable {H:Type} {enc:TypeId×Value->H}
theorem j4x {a:Assume} {C:Checked} {os:Os} {f:FuncId} {fn:Func} {s:ChangeSpec} {conds:List PathCond} {apart fresh handsOn again:Bool} {X:World->Array Value->Prop}
  (l:∀(w w':World) (args:Array Value),w.heap=w'.heap->X w args->X w' args)
  (own:ownKnob C.prog.godebug=none) (started:os.Started) (noInit:C.prog.inits.idxOf? f=none) (d:C.prog.funcs[f]? = some fn)
  (witness:∃(w:World) (tape:Tape) (i:Input),w.os=os/\(w.forCall tape i).Shaped C.prog/\i.vars=[]/\Input.okWide C.prog (w.forCall tape i) .any w.heap.size f i /\
   ((s.pre enc C.prog fn conds apart (w.forCall tape i).memory i.args/\X (w.forCall tape i).memory i.args)/\sizedMet enc C.prog fn (OpenSpec.ofChange s) apart (w.forCall tape i).memory i.args)/\a.holds C.prog (lone (Frame.enter C.prog f i.args .normal) [] (w.forCall tape i)))
  (contract:∀(W:World) (base:Nat) (args:Array Value) (ds gs:List (DataW H)) (before:List MemPlace),
   (∀(j:Nat) t v,fn.params[j]? = some t->args[j]? = some v->Value.okWide C.prog W .any base t v) ->
   DataW.Whole enc C.prog fn.params.toList s.vars apart W args.toList ds gs before->X W args->sizedMet enc C.prog fn (OpenSpec.ofChange s) apart W args->W.ShapedOpen C.prog ->
   Calls C.prog f args W fun e W'=>∃v,e=.returned v/\s.post enc C.prog fn apart fresh handsOn again W args v W') :
  ReturnsInHanded a C os f .any (fun w args=>(s.pre enc C.prog fn conds apart w args/\X w args)/\sizedMet enc C.prog fn (OpenSpec.ofChange s) apart w args) (s.post enc C.prog fn apart fresh handsOn again):=by
 refine returnsInHanded_of_calls own started noInit witness ?_
 intro w tape i _ k _ g b _
 obtain ⟨_,_,_,fn',hfn',_,_,_,_,c⟩:=g
 have e:fn'=fn:=Option.some.inj (hfn'.symm.trans d)
 subst e
 obtain ⟨⟨⟨ds,gs,before,m,_⟩,n⟩,h,ds',gs',before',o,hz'⟩:=b
 have hw':=DataW.Whole.of_heap (w':=w.forCall tape i) (by rfl) m
 refine (contract (w.forCall tape i) w.heap.size i.args ds gs before c hw' (l _ _ _ (by rfl) n) ⟨h,ds',gs',before',DataW.Whole.of_heap (w':=w.forCall tape i) (by rfl) o,hz'⟩ k).mono fun e W' ⟨v,J,h⟩=>?_
 subst J
 exact ChangeSpec.post_blind h
theorem j0p {a:Assume} {C:Checked} {os:Os} {f:FuncId} {fn:Func} {s:ChangeSpec} {conds:List PathCond} {apart fresh handsOn again:Bool} {X:World->Array Value->Prop}
  (g:∀(w w':World) (args:Array Value),w.heap=w'.heap->X w args->X w' args)
  (own:ownKnob C.prog.godebug=none) (started:os.Started) (noInit:C.prog.inits.idxOf? f=none) (b:C.prog.funcs[f]? = some fn)
  (witness:∃(w:World) (tape:Tape) (i:Input),w.os=os/\(w.forCall tape i).Shaped C.prog/\i.vars=[]/\Input.okWide C.prog (w.forCall tape i) .any w.heap.size f i /\
   ((s.pre enc C.prog fn conds apart (w.forCall tape i).memory i.args/\X (w.forCall tape i).memory i.args)/\sizedMet enc C.prog fn (OpenSpec.ofChange s) apart (w.forCall tape i).memory i.args)/\a.holds C.prog (lone (Frame.enter C.prog f i.args .normal) [] (w.forCall tape i)))
  (contract:∀(W:World) (base:Nat) (args:Array Value) (ds gs:List (DataW H)) (before:List MemPlace),
   (∀(j:Nat) t v,fn.params[j]? = some t->args[j]? = some v->Value.okWide C.prog W .any base t v) ->
   DataW.Whole enc C.prog fn.params.toList s.vars apart W args.toList ds gs before->X W args->W.ShapedOpen C.prog ->
   Calls C.prog f args W fun e W'=>∃v,e=.returned v/\s.post enc C.prog fn apart fresh handsOn again W args v W') :
  ReturnsInHanded a C os f .any (fun w args=>(s.pre enc C.prog fn conds apart w args/\X w args)/\sizedMet enc C.prog fn (OpenSpec.ofChange s) apart w args) (s.post enc C.prog fn apart fresh handsOn again):=by
 exact j4x g own started noInit b witness fun W base args ds gs before h1 h2 c _ d=>contract W base args ds gs before h1 h2 c d
theorem z4o {W W':World} (N:Mem (Fz.whole W) [] W'):∀k,k < W.heap.size->W'.heap[k]? = W.heap[k]? := fun k a=>by
 have h:W.heap[k]? = some W.heap[k]:=Array.getElem?_eq_getElem a
 rw [h]
 exact N.fz k _ h
theorem x6b {W W':World} (N:Mem (Fz.whole W) [] W'):W.heap.size<=W'.heap.size:=by
 rcases Nat.lt_or_ge W'.heap.size W.heap.size with h | h
 ·have h1:=z4o N W'.heap.size h
  rw [Array.getElem?_eq_getElem h] at h1
  simp at h1
 ·exact h
theorem j4r {W W':World} (N:Mem (Fz.whole W) [] W') {t:TypeId} (hr:Tryz.prog.readableRec t=true) (a:t < Tryz.prog.types.size) {v:Value} {d:DataW H} {ps:List MemPlace}
  (h:DataW.Trod enc Tryz.prog W 0 (fun _=>true) true t v d ps) (c:∀x∈ps,x.block < W.heap.size):DataW.Trod enc Tryz.prog W' 0 (fun b=>decide (b < W.heap.size)) true t v d ps:=by
 have O:=x6b N
 have e:=z4o N
 have hb:Below W.heap.size W { W with heap:=W'.heap }:={ os:=rfl,tape:=rfl,output:=rfl,size:=O,block:=e }
 exact DataW.Trod.of_heap (w:={ W with heap:=W'.heap }) (w':=W') rfl (Below.trod laidOut hr a h hb c)
theorem y1z {W W':World} (N:Mem (Fz.whole W) [] W'):∀{ts:List TypeId} {vs:List Value} {ds:List (DataW H)} {p:List MemPlace},(∀t∈ts,Tryz.prog.readableRec t=true/\t < Tryz.prog.types.size) ->
  DataW.TrodAll enc Tryz.prog W 0 (fun _=>true) true ts vs ds p->(∀x∈p,x.block < W.heap.size)->DataW.TrodAll enc Tryz.prog W' 0 (fun b=>decide (b < W.heap.size)) true ts vs ds p
 | [],_,_,_,_,h,_=>by
  obtain ⟨rfl,rfl,rfl⟩:=trodAll_nil h
  exact h
 | t::ts,_,_,_,hr,h,a=>by
  obtain ⟨v,vs,d,ds,p,q,rfl,rfl,rfl,h1,h2⟩:=trodAll_cons h
  exact ⟨p,q,j4r N (hr t msQ).1 (hr t msQ).2 h1 (fun x c=>a x (List.mem_append_left _ c)),
   y1z N (fun u e=>hr u (mcQ _ e)) h2 (fun x c=>a x (List.mem_append_right _ c)),rfl⟩
theorem x5m {fn:Func} {s:ChangeSpec} {apart fresh handsOn:Bool} {W W':World} {args:Array Value} {ds gs:List (DataW H)} {before:List MemPlace}
  (b:DataW.Whole enc Tryz.prog fn.params.toList s.vars apart W args.toList ds gs before) (g:s.vars=[]) (d:∀gs:List (DataW H),gs=[]->s.fn H (ds++gs)={ results:=[.lit (.bool true)],args:=ds }) (a:fn.resultTypes=#[4])
  (hr:∀t∈fn.params.toList,Tryz.prog.readableRec t=true/\t < Tryz.prog.types.size) (N:Mem (Fz.whole W) [] W'):s.post enc Tryz.prog fn apart fresh handsOn false W args (.bool true) W':=by
 have e:=b.lt
 have hW':=b
 obtain ⟨p,q,i,f,rfl,_,_⟩:=b
 rw [g] at f
 obtain ⟨rfl,rfl⟩:=trodVars_none f
 have c:=d [] rfl
 refine ⟨ds,[],_,[],p,[],hW',?_,?_,?_,?_,fun h=>by cases h⟩
 ·rw [c,a]
  exact trodAll_mk1 (shut_bool Tryz.underlying4 true)
 ·rw [c]
  exact y1z N hr i (fun x j=>e x (by simpa using j))
 ·rw [c,g]
  exact rfl
 ·exact World.keptBut_mono (fun _ h=>h.elim) (World.keptBut_none_iff.2 ⟨N.os,N.out,z4o N⟩)
end
end Go.Proofs.YtgkhcfjooiekkaaGreatDoor

namespace Go.Proofs.YtgkhcfjooiekkaaGreatDoor
open Go.ChangeShapes Go.WideShapes Go.ChangeAt Go.RowKit Go.Sw
set_option maxRecDepth 100000
theorem main_is:Tryz.pinned.checked.prog.mainIs=some (true,"455426ae17f5cebd1e869bbd2c7c15e1646e82f384eadf6ce8080b103650fe81".toList):=by kernel_rfl
theorem x5s:true=Tryz.prog.looks []:=by kernel_rfl
theorem z9y (W:World):laidMetH Tryz.prog laidAll W=laidMet Tryz.prog laidAll W:=MakeChecks.laidMetH_plain _ _ _ (by kernel_rfl)
theorem x5l (os:Os) (args:Array Value):laidMet Tryz.prog laidAll ((World.laidAll Tryz.prog os laidAll).forCall (fun _ _=>0) ⟨#[],args,[]⟩).memory:=laidMet_laidAll _ (by kernel_rfl) (by kernel_rfl)
theorem read_of {l:List TypeId} (h:(l.all fun t=>Tryz.prog.readableRec t&&decide (t < Tryz.prog.types.size))=true) {t:TypeId} (a:t∈l):Tryz.prog.readableRec t=true/\t < Tryz.prog.types.size:=by
 have:=List.all_eq_true.1 h t a
 simpa using this
section
variable {H:Type} {enc:TypeId×Value->H}
theorem c58:Tryz.prog.cellsOf 58=2:=by kernel_rfl
theorem c40:Tryz.prog.cellsOf 40=3:=by kernel_rfl
end
end Go.Proofs.YtgkhcfjooiekkaaGreatDoor

namespace Go.Sw
open Go.Proofs.Tryz
open Go.Proofs
theorem y4n:zM prog 208 0 0:=zG runUnderlying208 rfl sizeOf25 (by decide) rfl
theorem x4l:zM prog 208 1 1:=zG runUnderlying208 rfl sizeOf3 (by decide) rfl
set_option maxRecDepth 20000 in
theorem z0o:RowT prog 23 72 2 32:=⟨underlying23,⟨_,_,Tryz.type72,rfl,rfl,rfl,rfl⟩,by decide,by decide⟩
set_option maxRecDepth 20000 in
theorem rt_24:RowT prog 24 68 8 136:=⟨underlying24,⟨_,_,Tryz.type68,rfl,rfl,rfl,rfl⟩,by decide,by decide⟩
set_option maxRecDepth 20000 in
theorem z3q:RowT prog 63 66 5 80:=⟨underlying63,⟨_,_,Tryz.type66,rfl,rfl,rfl,rfl⟩,by decide,by decide⟩
set_option maxRecDepth 20000 in
theorem j7h:RowT prog 64 195 7 120:=⟨underlying64,⟨_,_,Tryz.type195,rfl,rfl,rfl,rfl⟩,by decide,by decide⟩
set_option maxRecDepth 20000 in
theorem j3t:RowT prog 131 135 2 40:=⟨underlying131,⟨_,_,Tryz.type135,rfl,rfl,rfl,rfl⟩,by decide,by decide⟩
end Go.Sw
