import Derived.RangeFuncRecord
import Derived.RangeFuncSeq
import Derived.RangeFuncLeaves
import Derived.RangeFuncCalls
import Derived.OwnWalkIn
import Derived.Recover
import Derived.ChangeArms
import Derived.OpenShut
import Derived.Deep.Slices
import Derived.Test.YtgkhcfjooiekkaaGreatDoorCards
import Derived.Test.YtgkhcfjooiekkaaGreatDoorTie
import Derived.PinnedBridge
import Derived.Lay
import Derived.LaidOnce
import Derived.SevenTiedAt
import Derived.HandedShaped
import Derived.Carry
import Derived.ProofKit
import Derived.Shelf.Vars
import Derived.Stop.LaidErr
import Derived.JoinedOf
import Derived.Test.YtgkhcfjooiekkaaGreatDoorX02
set_option linter.unusedVariables false
set_option linter.unusedSimpArgs false
namespace Go.Sw
open Go.Proofs Go.Proofs.Tryz
set_option maxRecDepth 20000
set_option maxHeartbeats 4000000
def FO:Option Nat->Fence
 | none=>Fence.wide
 | some l=>Fence.wide.inRound l
section
variable {P:Program} {n m:Nat} {E:List (Nat×Value)} {D:List Deferred} {a:Act} {w:World} {ops:Array Oper} {rest:List Oper} {Q:Exit->Act->World->Prop} {r:Option Nat} {d:Nat} {v:Value} {op:Op} {ty:TypeId} {pos:String} {aft:Array Edge}
theorem FO.calls {f:FuncId} {args:Array Value} {R:Ending->World->Prop} (h:Calls P f args w R):CallsIn (FO r) m P f args w R:=by
 have:=(callsIn_wide (n:=m)).2 h
 cases r with
 | none=>exact this
 | some l=>exact CallsIn.inRound l this
theorem FO.fn (f:FuncId):(FO r).fn f:=by cases r <;> trivial
theorem FO.depth:(FO r).depth.isSome=true->False:=by cases r <;> (intro h;cases h)
theorem z3j {o:Oper} {K:Act->World->Prop} (b:∀c,o.op≠.defer c)
  (h:Oper.eff P o a w (fun v w'=>K (a.put o.dst v) w') (fun c w'=>Q (.panic c) a w')):o.wpIn (FO r) m P a w K Q:=by
 refine ⟨fun f _=>FO.fn f,?_⟩
 rw [Oper.semAt_plain _ _ _ b]
 unfold Oper.eff at h
 generalize (execOp a.eval o).run P w=q at *
 cases q with
 | ok x w'=>
  cases x <;> simp only [mK] at h <;> simp only [Oper.uponIn]
  case value=>exact h
  case skip=>exact h
  case enter f args=>exact ⟨fun d=>(FO.depth d).elim,FO.calls (h.mono fun e w'' J=>by cases e <;> first | exact J | exact J.elim)⟩
 | halt x w'=>cases x <;> simp only [mK] at h;simp only [Oper.uponIn];exact h
theorem j8h {o:Oper} (J:EnvR n E D a) (i:o.dst=some d) (b:Nat.blt d n=true) (j:o.guard=none) (e:∀c,o.op≠.defer c)
  (h:Oper.eff P o a w (fun v w'=>∀a,EnvR n ((d,v)::E) D a->wpListIn (FO r) m P ops Q rest a w') (fun _ _=>False)):wpListIn (FO r) m P ops Q (o::rest) a w:=by
 refine wpListIn_plain j fun L f=>z3j e (qH h (fun v w' k=>f _ _ ?_) (fun c w' g=>g.elim))
 rw [i];exact k _ (J.put b)
theorem in_st0 {o:Oper} (J:EnvR n E D a) (f:o.dst=none) (g:o.guard=none) (b:∀c,o.op≠.defer c)
  (h:Oper.eff P o a w (fun _ w'=>∀a,EnvR n E D a->wpListIn (FO r) m P ops Q rest a w') (fun _ _=>False)):wpListIn (FO r) m P ops Q (o::rest) a w:=by
 refine wpListIn_plain g fun L d=>z3j b (qH h (fun v w' i=>d _ _ ?_) (fun c w' e=>e.elim))
 rw [f];exact i _ J.put_none
theorem aA (J:EnvR n E D a) (b:∀c,op≠.defer c) (f:Ok P a op ty w v) (e:Nat.blt d n=true) (k:∀a,EnvR n ((d,v)::E) D a->wpListIn (FO r) m P ops Q rest a w) :
  wpListIn (FO r) m P ops Q (⟨some d,op,ty,pos,aft,none⟩::rest) a w :=
 j8h J rfl e rfl b (mF f k)
theorem z1c {id:Nat} {l:List Oper} (h:wpListIn (FO none) 3 P l.toArray Q l a w):(Code.region id l.toArray false).wp P Q a w:=wpIn_wide.1 (wpIn_region_lit h)
theorem y4t {y x:Operand} {ts:Array TypeId} {l:Nat} {JJ:World->Prop} (J:EnvR n E D a) (b:Nat.blt d n=true) (q:ev E y=some (.func (.yield l) #[] #[])) (p:ev E x=some v)
  (hr:YieldAt Fence.wide 2 P l #[v] w (fun e w'=>e=.returned (.bool true)/\JJ w')) (k:∀w',JJ w'->∀a,EnvR n ((d,.bool true)::E) D a->wpListIn (FO none) 3 P ops Q rest a w') :
  wpListIn (FO none) 3 P ops Q (⟨some d,.call { callee:=.value y,args:=#[x],argTypes:=ts },ty,pos,aft,none⟩::rest) a w:=by
 obtain ⟨fn,tmps,assign,body,h1,g⟩:=hr
 refine wpListIn_plain rfl fun L m=>⟨fun f _=>trivial,?_⟩
 rw [Oper.semAt_plain _ _ _ (by intro c h;cases h)]
 have i:(execOp a.eval ⟨some d,.call { callee:=.value y,args:=#[x],argTypes:=ts },ty,pos,aft,none⟩).run P w=.ok (.round l fn tmps assign body) w:=by
  simp only [execOp,resolve,Sem.run_bind,List.map_toArray,List.map_cons,List.map_nil,J.ev p,J.ev q,Deferred.ofValue]
  simp [invoke,Sem.run_bind,Result.andThen,h1]
 rw [i,Oper.uponIn_round]
 refine ⟨fun o=>(by cases o),g.mono fun e w' he'=>?_⟩
 obtain ⟨rfl,j⟩:=he'
 exact m _ _ (k _ j _ (J.put b))
end
section
variable {P:Program} {V Ψ:Fz} {K:List Res} {w:World}
theorem Mem.putObj {i l:Nat} {o o':Obj} (N:Mem V K w) (b:qS K i=some (.blk l o)):Mem V (pB K i (.blk l o')) (w.putObj l o'):=by
 have hb:l < w.heap.size:=(Array.getElem?_eq_some_iff.1 (N.own _ (yU b))).1
 exact N.upd b rfl rfl (fun c d a=>World.putObj_heap_other (fun e=>a (by simp [Res.foot,e]))) (World.putObj_heap_same hb) (.inl rfl)
theorem j1j {β γ:Type} {l n:Nat} {r:Loop} {tmps:Array Value} {E:List (Nat×Value)} {E1:β->List (Nat×Value)} {K1:β->List Res} {KO:γ->List Res} (N:Mem V (.blk l (.loop r)::K) w) (b:r.state=.ready) (d:r.pending=none)
  (J:EnvR n E [] ⟨tmps,[]⟩)
  (s:∀a,EnvR n E [] a->r.assign.wpIn (FO (some l)) 2 P (Exit.then (fun j g=>∃y,EnvR n (E1 y) [] j/\Mem V (.blk l (.loop r)::K1 y) g) (fun _ _ _=>False)) a w)
  (t:∀y a w,EnvR n (E1 y) [] a->Mem V (.blk l (.loop { r with state:=.busy })::K1 y) w->r.body.wpIn (FO (some l)) 2 P (fun e _ w=>e=.normal/\∃z,Mem V (.blk l (.loop { r with state:=.busy })::KO z) w) a w) :
  RoundIn Fence.wide 2 P l r.fn tmps r.assign r.body w (fun e w'=>e=.returned (.bool true)/\∃z,Mem V (.blk l (.loop r)::KO z) w'):=by
 refine roundIn_of_wpIn trivial (Code.wpIn_mono (fun e j g h=>?_) (s _ J))
 cases e with
 | normal=>
  obtain ⟨y,h1,k⟩:=h
  have hl:g.heap[l]? = some (.loop r):=k.own _ msQ
  refine ⟨_,run_beginRound hl b,?_⟩
  have q:=k.putObj (i:=0) (o':=.loop { r with state:=.busy }) rfl
  refine Code.wpIn_mono (fun e a2 u h=>?_) (t y _ _ h1 q)
  obtain ⟨rfl,z,m⟩:=h
  have f:u.heap[l]? = some (.loop { r with state:=.busy }):=m.own _ msQ
  refine ⟨_,_,run_endRound none f,rfl,z,?_⟩
  have o:=m.putObj (i:=0) (o':=.loop { ({ r with state:=.busy }:Loop) with state:=.ready,pending:=none }) rfl
  have p:({ ({ r with state:=.busy }:Loop) with state:=.ready,pending:=none }:Loop)=r:=by cases r;simp only at b d;subst b;subst d;rfl
  simp only [pB,p] at o;simpa [p] using o
 | exit id=>exact h.elim
 | goto l=>exact h.elim
 | ret=>exact h.elim
 | panic c=>exact h.elim
 | outgrown=>exact h.elim
theorem j2m {β δ:Type} {n gf:Nat} {E:List (Nat×Value)} {Dd:List Deferred} {a:Act} {g:Operand} {ps:Array Tmp} {assign body:Code} {Q:Exit->Act->World->Prop} {fs cs:List Value} {F1:β->Fz} {KO:β->List Res} {KE:δ->List Res} {G:β->Prop} {B:δ->List PanicEntry->Prop}
  (J:EnvR n E Dd a) (N:Mem V K w) (A:ev E g=some (.func (.func gf) fs.toArray cs.toArray)) (u:∀args w,(callFunc gf args).run P w=.ok (.enter gf args) w)
  (s:∀Dk l r w,r.params=ps->r.assign=assign->r.body=body->r.state=.ready->r.pending=none->EnvR n E [] ⟨r.tmps,[]⟩->Mem V (.blk l (.loop r)::.blk Dk (.deferred (some []))::K) w ->
   Calls P gf (fs++[Value.func (.yield l) #[] #[]]++cs).toArray w (fun e w'=>(∃v y,e=.returned v/\G y/\Mem (F1 y) (.blk l (.loop r)::.blk Dk (.deferred (some []))::KO y) w')∨(∃c z,e=.panicked c/\B z c/\Mem V (.blk Dk (.deferred (some []))::KE z) w')))
  (kn:∀Dk y a w,G y->EnvR n E ({ target:=.collected Dk,args:=#[] }::Dd) a->Mem (F1 y) (.blk Dk (.deferred (some []))::KO y) w->Q .normal a w)
  (kp:∀Dk z c a w,B z c->EnvR n E ({ target:=.collected Dk,args:=#[] }::Dd) a->Mem V (.blk Dk (.deferred (some []))::KE z) w->Q (.panic c) a w):(Code.rangeFunc g ps assign body).wp P Q a w:=by
 refine (wpIn_wide (n:=3)).1 (wpIn_rangeFunc fun fn _=>?_)
 generalize j:((w.alloc (.deferred (some []))).alloc (.loop { state:=.ready,pending:=none,fn,tmps:=a.tmps,params:=ps,assign,body,defers:=w.heap.size }))=f
 have m:Mem V (.blk (w.heap.size+1) (.loop { state:=.ready,pending:=none,fn,tmps:=a.tmps,params:=ps,assign,body,defers:=w.heap.size })::.blk w.heap.size (.deferred (some []))::K) f:=by
  have h1:=N.push (.deferred (some []))
  have k:=h1.push (.loop { state:=.ready,pending:=none,fn,tmps:=a.tmps,params:=ps,assign,body,defers:=w.heap.size })
  have p:({ w with heap:=w.heap.push (.deferred (some [])) }:World).heap.size=w.heap.size+1:=Array.size_push _
  rw [p] at k
  rw [<- j];exact k
 have o:EnvR n E ({ target:=.collected w.heap.size,args:=#[] }::Dd) { a with defers:=[{ target:=.collected w.heap.size,args:=#[] }]++a.defers }:=⟨J.size,J.env,by simp [J.defs]⟩
 have d:=s w.heap.size (w.heap.size+1) { state:=.ready,pending:=none,fn,tmps:=a.tmps,params:=ps,assign,body,defers:=w.heap.size } f rfl rfl rfl rfl rfl ⟨J.size,J.env,rfl⟩ m
 refine ⟨w.heap.size+1,[{ target:=.collected w.heap.size,args:=#[] }],f,{ target:=.fn (.func gf) cs.toArray,args:=(fs++[Value.func (.yield (w.heap.size+1)) #[] #[]]).toArray },f,gf,(fs++[Value.func (.yield (w.heap.size+1)) #[] #[]]++cs).toArray,f,?_,?_,fun f' _=>trivial,?_,fun t=>(by cases t),?_⟩
 ·rw [show Fence.wide.round=none from rfl,run_enterLoop_outer,j]
 ·have h1:=J.ev A
  have k:a.eval (.const (.func (.yield (w.heap.size+1)) #[] #[]))=.func (.yield (w.heap.size+1)) #[] #[]:=rfl
  simp only [resolve,Sem.run_bind,h1,k,List.map_toArray,List.map_cons,List.map_nil]
  simp [Deferred.ofValue]
 ·have:=u (fs++[Value.func (.yield (w.heap.size+1)) #[] #[]]++cs).toArray f
  simp only [invoke]
  simpa using this
 ·refine callsIn_wide.2 (d.mono fun e C h=>?_)
  rcases h with ⟨v,y,rfl,hG,b⟩ | ⟨c,z,rfl,q,b⟩
  ·have hl:C.heap[w.heap.size+1]? = _:=b.own _ msQ
   refine ⟨_,_,run_endLoop hl (by intro h;cases h),?_⟩
   exact kn _ y _ _ hG o (b.putObj (i:=0) rfl).tail
  ·exact kp _ z c _ _ q o b
def oB (P:Program) (fn:Func) (tmps:Array Value) (R:Ending->World->Prop) (ds:List Deferred) (u:FrameMode) (w:World):Prop :=
 ∀(fr:Frame) (cs:List Frame),fr.mode=u->fr.defers=ds->fr.tmps=tmps->P.funcs[fr.fn]? = some fn->fr.kind=.normal ->
  ∃e w' fr',R e w'/\Comes P (lone fr cs w) (lone fr' cs w') e/\fr'.fn=fr.fn/\fr'.leaving P w' e
theorem z0h {fn:Func} {tmps:Array Value} {R:Ending->World->Prop} {ds:List Deferred} {u:FrameMode} (h:Leaves P fn tmps R ds u w):oB P fn tmps R ds u w :=
 fun fr cs h1 a b c d=>leaves_steps ds u w fr cs h1 a b c d h
theorem oM {fn:Func} {tmps:Array Value} {R:Ending->World->Prop} {Dk:Nat} {ds:List Deferred} {u:FrameMode} (j:u≠.run) (k:w.heap[Dk]? = some (.deferred (some [])))
  (h:oB P fn tmps R ds u (w.putObj Dk (.deferred none))):oB P fn tmps R ({ target:=.collected Dk,args:=#[] }::ds) u w:=by
 intro fr cs h1 b c d f
 have O:=step_collected (P:=P) (cs:=cs) (h1▸j) b rfl (run_takeDeferred k)
 obtain ⟨e,w',fr',g,i,a,hl⟩:=h { fr with defers:=[]++ds } cs h1 rfl c d f
 exact ⟨e,w',fr',g,Comes.of_steps (.one O) i,a,hl⟩
def q0e (P:Program) (fn:Func) (R:Ending->World->Prop):Exit->Act->World->Prop
 | .normal,a,w | .ret,a,w=>oB P fn a.tmps R a.defers .returning w
 | .panic chain,a,w=>oB P fn a.tmps R a.defers (.panicking chain) w
 | .outgrown,_,w=>R .outgrown w
 | _,_,_=>False
theorem y7z {f:FuncId} {fn:Func} {c:Code} {args:Array Value} {w:World} {R:Ending->World->Prop}
  (i:P.funcs[f]? = some fn) (hb:fn.body=some c)
  (h:c.wp P (q0e P fn R) { tmps:=args++Array.replicate (fn.ntmps - args.size) undef,defers:=[] } w):Calls P f args w R:=by
 intro cs
 let b:Frame:={ (default:Frame) with fn:=f,kind:=.normal }
 have henter:Frame.enter P f args .normal =
   b.at { tmps:=args++Array.replicate (fn.ntmps - args.size) undef,defers:=[] } [.code c]:=by
  simp [Frame.enter,Frame.at,i,hb,b]
 obtain ⟨e,a',w',hq,a⟩:=h b [] cs
 rw [<- henter] at a
 cases e with
 | normal=>
  obtain ⟨e',w'',fr',g,O,d,hl⟩:=hq { b.at a' [] with mode:=.returning } cs rfl rfl rfl i rfl
  exact ⟨e',w'',fr',g,Comes.of_steps (Steps.trans a (.one step_end)) O,d,hl⟩
 | ret=>
  obtain ⟨todo,hs₀⟩:=a
  obtain ⟨e',w'',fr',g,O,d,hl⟩:=hq { b.at a' todo with mode:=.returning } cs rfl rfl rfl i rfl
  exact ⟨e',w'',fr',g,Comes.of_steps hs₀ O,d,hl⟩
 | panic chain=>
  obtain ⟨todo,hs₀⟩:=a
  obtain ⟨e',w'',fr',g,O,d,hl⟩:=hq { b.at a' todo with mode:=.panicking chain } cs rfl rfl rfl i rfl
  exact ⟨e',w'',fr',g,Comes.of_steps hs₀ O,d,hl⟩
 | exit id=>exact hq.elim
 | goto l=>exact hq.elim
 | outgrown=>exact ⟨.outgrown,w',b,hq,a.resolve_left (by simp [b]),rfl,trivial⟩
theorem enterX {n:Nat} {f:FuncId} {fn:Func} {c:Code} {vs:List Value} {R:Ending->World->Prop} (g:P.funcs[f]? = some fn) (hb:fn.body=some c) (i:fn.ntmps=n) (hl:Nat.ble vs.length n=true)
  (k:∀Q:Exit->Act->World->Prop,(∀e a w,q0e P fn R e a w->Q e a w)->∀a,EnvR n (oD 0 vs) [] a->c.wp P Q a w):Calls P f vs.toArray w R:=by
 have hl':vs.length<=n:=by simpa using hl
 refine y7z g hb (k _ (fun _ _ _ h=>h) _ ⟨by simp [i];omega,fun t v j=>?_,rfl⟩)
 obtain ⟨_,b⟩:=gI vs 0 t v j
 simp only [Nat.sub_zero] at b
 have d:t < vs.length:=(List.getElem?_eq_some_iff.1 b).1
 simp only [List.getElem?_toArray,Array.getElem?_append,List.size_toArray,d,↓reduceIte]
 exact b
end
theorem dE {P:Program} {n:Nat} {E:List (Nat×Value)} {a:Act} {w:World} {fn:Func} {R:Ending->World->Prop} (J:EnvR n E [] a) (hr:fn.results=#[]) (h:R (.returned (.tuple #[])) w):bodyPost P fn R .normal a w :=
 ⟨J.defs,.tuple #[],by simp [results,hr],h⟩
section
variable {P:Program} {n:Nat} {E:List (Nat×Value)} {D:List Deferred} {a:Act} {w:World} {ops:Array Oper} {rest:List Oper} {Q:Exit->Act->World->Prop} {ty:TypeId} {pos:String} {aft:Array Edge}
theorem z3c {y:Operand} {fv:Fn} {fs cs vs:List Value} {xs:Array Operand} {ts:Array TypeId} (J:EnvR n E D a) (d:ev E y=some (.func fv fs.toArray cs.toArray)) (c:evs E xs.toList=some vs)
  (k:∀a,EnvR n E ({ target:=.fn fv cs.toArray,args:=(fs++vs).toArray }::D) a->wpList P ops Q rest a w) :
  wpList P ops Q (⟨none,.defer { callee:=.value y,args:=xs,argTypes:=ts },ty,pos,aft,none⟩::rest) a w:=by
 refine wpList_plain rfl fun L b=>?_
 unfold Oper.wp
 simp only [execOp,resolve,J.evsA c,J.ev d,Deferred.ofValue]
 refine b _ _ (k _ ⟨J.size,J.env,?_⟩)
 simp [Act.put,J.defs]
end
section
variable {P:Program} {n:Nat} {E:List (Nat×Value)} {D:List Deferred} {a:Act} {w:World} {ty:TypeId}
theorem y7s {x:Operand} {t t0:TypeId} {d:TypeDesc} {v:Value} (J:EnvR n E D a) (e:ev E x=some (.iface t v)) (c:Under P t d) (b:∀ms,d≠.interface ms) :
  Ok P a (.typeAssert x t0 t true) ty w (.tuple #[v,.bool true]):=fun _ _ _ _=>by
 simp only [execOp,J.ev e,Instr.typeAssert]
 simp only [Sem.run_bind,c _,Result.andThen,if_true]
 cases d <;> first | (exact absurd rfl (b _)) | simp [Sem.run_bind,Result.andThen]
end
section
variable {P:Program} {n:Nat} {E:List (Nat×Value)} {D:List Deferred} {a:Act} {w:World} {d:Nat} {ops:Array Oper} {rest:List Oper} {Q:Exit->Act->World->Prop}
theorem stP {o:Oper} (J:EnvR n E D a) (g:o.dst=some d) (b:Nat.blt d n=true) (i:o.guard=none)
  (h:Oper.eff P o a w (fun v w'=>∀a,EnvR n ((d,v)::E) D a->wpList P ops Q rest a w') (fun c w'=>∀a,EnvR n E D a->Q (.panic c) a w')):wpList P ops Q (o::rest) a w:=by
 refine wpList_plain i fun L e=>gB (qH h (fun v w' j=>e _ _ ?_) (fun c w' f=>f _ J))
 rw [g];exact j _ (J.put b)
end
theorem z7i {P:Program} {fn:Func} {n:Nat} {E:List (Nat×Value)} {D:List Deferred} {a:Act} {V:Fz} {K:List Res} {w:World} {t T b i:Nat} {cs:List Value} {c:TypeId} {v:Value} (J:EnvR n E D a) (N:Sees V K w) (hr:fn.results=#[.cell t T]) (g:get E t=some (.pointer (some ⟨b,0,none⟩)))
  (f:qS K i=some (.blk b (ob cs c))) (e:nth cs 0=some v) (d:Scalar P T):(results fn a.tmps).run P w=.ok v w:=by
 have h1:=N.cell f 0
 rw [e] at h1
 simp [results,hr,Array.getD_eq_getD_getElem?,J.env t _ g,asAddr,loadVar,Sem.run_bind,d w,Result.andThen,load,Sem.run,h1]
section
variable {P:Program} {n:Nat} {E:List (Nat×Value)} {D:List Deferred} {a:Act} {V:Fz} {K:List Res} {w:World}
theorem j7m {t T b k i:Nat} {cs:List Value} {d:TypeId} (J:EnvR n E D a) (N:Sees V K w) (m:get E t=some (.pointer (some ⟨b,0,none⟩)))
  (l:qS K i=some (.blk b (ob cs d))) (f:AggT P T) (e:SizeT P T k) (hl:cs.length=k):(loadVar T ⟨b,0,none⟩).run P w=.ok (.agg cs.toArray) w:=by
 have g:∀j v,cs[j]? = some v->w.cell? ((⟨b,0,none⟩:Addr).add j)=some v:=fun j v h=>by
  have h1:=N.cell l j
  rw [z5l,h] at h1
  unfold Addr.add;split
  ·subst_vars;exact h1
  ·simpa using h1
 have c:=run_loadCells_list (P:=P) (w:=w) ⟨b,0,none⟩ cs g
 rw [hl] at c
 simp [loadVar,Sem.run_bind,f w,e w,c,Result.andThen]
end
section
variable {P:Program} {n:Nat} {E:List (Nat×Value)} {D:List Deferred} {a:Act} {V Ψ:Fz} {K:List Res} {w:World}
theorem Mem.freezeMap {b i:Nat} {m:List (Bs×Value)} (N:Mem V K w) (c:qS K i=some (.mp b m)):∃Ψ,V.Le Ψ/\Mem Ψ (gM K i) w/\MapAt Ψ b m:=by
 have h:=N.pull c
 obtain ⟨es,clock,d,a⟩:=N.own _ (yU c)
 exact ⟨_,Fz.le_add (h.no rfl) _,h.freezeHead (b:=b) rfl d,es,clock,by simp [Fz.add],a⟩
theorem j1g {fn:Func} {t u x T U k i j b c:Nat} {v y:Value} {cs:List Value} {g h:TypeId} (J:EnvR n E D a) (N:Sees V K w) (hr:fn.results=#[.tmp x,.cell t T,.cell u U]) (s:get E x=some y) (r:get E t=some (.pointer (some ⟨b,0,none⟩)))
  (q:qS K i=some (.blk b (ob [v] g))) (p:Scalar P T) (f:get E u=some (.pointer (some ⟨c,0,none⟩))) (e:qS K j=some (.blk c (ob cs h))) (d:AggT P U) (o:SizeT P U k) (hl:cs.length=k) :
  (results fn a.tmps).run P w=.ok (.tuple #[y,v,.agg cs.toArray]) w:=by
 have h1:w.cell? ⟨b,0,none⟩=some v:=N.cell q 0
 have l:=j7m (P:=P) J N f e d o hl
 have m:(loadVar T ⟨b,0,none⟩).run P w=.ok v w:=by simp [loadVar,Sem.run_bind,p w,Result.andThen,load,Sem.run,h1]
 simp [results,hr,Array.getD_eq_getD_getElem?,J.env t _ r,J.env u _ f,J.env x _ s,asAddr,l,m,Sem.run_bind,Result.andThen]
end
theorem x0y {P:Program} {n:Nat} {E:List (Nat×Value)} {D:List Deferred} {a:Act} {w:World} {Kn:Value->World->Prop} {Qp:List PanicEntry->World->Prop} {dst:Option Tmp} {ty:TypeId} {pos:String} {aft:Array Edge} {g:Option (Nat×Bool)}
  {α β ε δ:Type} {f:FuncId} {xs:Array Operand} {ts:Array TypeId} {vs:List Value} {r:Except ε α} {X:α->β->Value} {Z:ε->δ->Value} {b d:Fz} {KO:α->β->List Res} {KE:ε->δ->List Res}
  (J:EnvR n E D a) (m:evs E xs.toList=some vs) (l:∀args w,(callFunc f args).run P w=.ok (.enter f args) w)
  (j:Calls P f vs.toArray w (fun e w'=>Out r (fun x=>∃y,e=.returned (X x y)/\Mem b (KO x y) w') (fun c=>∃y,e=.returned (Z c y)/\Mem d (KE c y) w')))
  (k:∀x y w',r=.ok x->Mem b (KO x y) w'->Kn (X x y) w') (kp:∀c y w',r=.error c->Mem d (KE c y) w'->Kn (Z c y) w') :
  Oper.eff P ⟨dst,.call { callee:=.value (.func f),args:=xs,argTypes:=ts },ty,pos,aft,g⟩ a w Kn Qp:=by
 refine cM J m l j (fun v w' h=>?_) (fun c w' h=>?_) (fun w' h=>?_)
 ·cases r with
  | ok x=>obtain ⟨y,h1,i⟩:=h;cases h1;exact k _ _ _ rfl i
  | error c=>obtain ⟨y,h1,i⟩:=h;cases h1;exact kp _ _ _ rfl i
 ·cases r with
  | ok x=>obtain ⟨y,h1,_⟩:=h;cases h1
  | error c=>obtain ⟨y,h1,_⟩:=h;cases h1
 ·cases r with
  | ok x=>obtain ⟨y,h1,_⟩:=h;cases h1
  | error c=>obtain ⟨y,h1,_⟩:=h;cases h1
theorem enterD {P:Program} {n:Nat} {w:World} {f:FuncId} {fn:Func} {c:Code} {vs:List Value} {R:Ending->World->Prop} (g:P.funcs[f]? = some fn) (hb:fn.body=some c) (i:fn.ntmps=n) (hl:Nat.ble vs.length n=true)
  (k:∀Q:Exit->Act->World->Prop,(∀e a w,bodyPostD P fn R e a w->Q e a w)->∀a,EnvR n (oD 0 vs) [] a->c.wp P Q a w):Calls P f vs.toArray w R:=by
 have hl':vs.length<=n:=by simpa using hl
 refine calls_of_wp_defers g hb (k _ (fun _ _ _ h=>h) _ ⟨by simp [i];omega,fun t v j=>?_,rfl⟩)
 obtain ⟨_,b⟩:=gI vs 0 t v j
 simp only [Nat.sub_zero] at b
 have d:t < vs.length:=(List.getElem?_eq_some_iff.1 b).1
 simp only [List.getElem?_toArray,Array.getElem?_append,List.size_toArray,d,↓reduceIte]
 exact b
abbrev spentV:Value:=.iface 177 (.agg #[])
set_option maxRecDepth 20000 in
set_option maxHeartbeats 4000000 in
theorem q7z {V:Fz} {K:List Res} {w:World} {b:Nat} (N:Mem V (.blk b (ob [.int .i64 ((0:Nat):Int)] 31)::K) w) :
  CallsD prog 102 #[.pointer (some ⟨b,0,none⟩)] (.panicking (tR ())) w fun e u' w'=>
   e=.returned (.tuple #[])/\u'=.panicking [{ v:=spentV,recovered:=true }]/\Mem V (.blk b (ob [.int .i64 ((4:Nat):Int)] 31)::K) w':=by
 generalize j:(fun (e:Ending) (u':FrameMode) (w':World)=>e=.returned (.tuple #[])/\u'=.panicking [{ v:=spentV,recovered:=true }]/\Mem V (.blk b (ob [.int .i64 ((4:Nat):Int)] 31)::K) w')=R
 refine callsD_of_wpS func102 rfl fun c₀ cs m=>?_
 apply wpS_seq
 apply wpS_region
 show wpOpsS prog _ _ [0,1] _ _ _
 simp [wpOpsS,go_sem,recoverD,m,ntmps102,Exit.thenS,tR]
 refine wpS_of_wp ?_
 generalize k:(_::cs:List Frame)=cs'
 have hQ:∀(a:Act) (w':World),a.defers=[]->Mem V (.blk b (ob [.int .i64 ((4:Nat):Int)] 31)::K) w'->bodyPostS prog Tryz.f102 c₀ cs R .normal a cs' w':=fun a w' l N=>
  ⟨l,.panicking [{ v:=spentV,recovered:=true }],k.symm,.tuple #[],results_none rfl _ _ _,by subst j;exact ⟨rfl,rfl,N⟩⟩
 generalize c:(Act.mk _ [])=a
 have J:EnvR 15 [(1,spentV),(0,.pointer (some ⟨b,0,none⟩))] [] a:=by
  subst c
  refine ⟨rfl,fun t v h=>?_,rfl⟩
  obtain ⟨rfl,rfl⟩ | ⟨_,h⟩:=wU h
  ·rfl
  ·obtain ⟨rfl,rfl⟩ | ⟨_,h⟩:=wU h
   ·rfl
   ·cases h
 clear c
 refine sq fun n d=>?_
 refine wp_region_lit ?_
 refine xD J (vW J rfl) rfl fun a J=>?_
 refine xD J (cZ (v:=.bool true) J rfl rfl rfl (by kernel_rfl)) rfl fun a J=>?_
 refine wpList_nil ?_
 apply d
 refine if_t J rfl ?_
 refine sq fun o f=>?_
 refine sq fun p g=>?_
 refine wp_region_lit ?_
 refine xD J (vW J rfl) rfl fun a J=>?_
 refine xD J (y7s J rfl runUnderlying177 (by intro ms h;cases h)) rfl fun a J=>?_
 refine xD J (vW J rfl) rfl fun a J=>
  xD J (gC J rfl rfl) rfl fun a J=>
  xD J (gC J rfl rfl) rfl fun a J=>?_
 refine st J rfl rfl rfl (wZ (cs:=[]) N zeroValue177 rfl fun r w N a J=>?_)
 refine st0 J rfl rfl (jR 0 (cs:=[]) (vs:=[]) J N rfl rfl rfl rfl sizeOf177 rfl rfl rfl fun w N a J=>?_)
 refine xD J (gR J rfl) rfl fun a J=>?_
 refine wpList_nil ?_
 apply g
 refine sq fun q i=>?_
 refine wp_region_lit ?_
 refine xD J (vW J rfl) rfl fun a J=>
  xD J (q3i J rfl) rfl fun a J=>?_
 refine wpList_nil ?_
 apply i
 refine if_f J rfl ?_
 refine wp_skip ?_
 apply f
 refine wp_region_lit ?_
 refine st0 J rfl rfl (jR 1 (cs:=[.int .i64 ((0:Nat):Int)]) (vs:=[.int .i64 ((4:Nat):Int)]) J N rfl rfl rfl rfl sizeOf31 rfl rfl rfl fun w N a J=>?_)
 refine wpList_nil ?_
 replace N:Mem V (.blk b (ob [.int .i64 ((4:Nat):Int)] 31)::K) w:=N.del 0
 exact hQ _ _ J.defs N
set_option maxRecDepth 20000 in
theorem catch_idle {w:World} {b:Nat} :
  CallsD prog 102 #[.pointer (some ⟨b,0,none⟩)] .returning w fun e u' w'=>e=.returned (.tuple #[])/\u'=.returning/\w'=w:=by
 generalize g:(fun (e:Ending) (u':FrameMode) (w':World)=>e=.returned (.tuple #[])/\u'=.returning/\w'=w)=R
 refine callsD_of_wpS func102 rfl fun c₀ cs f=>?_
 apply wpS_seq
 apply wpS_region
 show wpOpsS prog _ _ [0,1] _ _ _
 simp [wpOpsS,go_sem,recoverD,f,ntmps102,Exit.thenS,tR]
 refine wpS_of_wp ?_
 have hQ:∀(a:Act),a.defers=[]->bodyPostS prog Tryz.f102 c₀ cs R .normal a (c₀::cs) w:=fun a i=>
  ⟨i,.returning,by cases c₀;simp only at f;subst f;rfl,.tuple #[],results_none rfl _ _ _,by subst g;exact ⟨rfl,rfl,rfl⟩⟩
 generalize c:(Act.mk _ [])=a
 have J:EnvR 15 [(1,.nilIface),(0,.pointer (some ⟨b,0,none⟩))] [] a:=by
  subst c
  refine ⟨rfl,fun t v h=>?_,rfl⟩
  obtain ⟨rfl,rfl⟩ | ⟨_,h⟩:=wU h
  ·rfl
  ·obtain ⟨rfl,rfl⟩ | ⟨_,h⟩:=wU h
   ·rfl
   ·cases h
 clear c
 refine sq fun j d=>?_
 refine wp_region_lit ?_
 refine xD J (vW J rfl) rfl fun a J=>?_
 refine xD J (cZ (v:=.bool false) J rfl rfl rfl (by kernel_rfl)) rfl fun a J=>?_
 refine wpList_nil ?_
 apply d
 refine if_f J rfl ?_
 refine wp_skip ?_
 exact hQ _ J.defs
set_option maxRecDepth 20000 in
set_option maxHeartbeats 1000000 in
theorem q2y {α β:Type} {r:Except Nat α} {g:FuncId} {cs:List Value} {V:Fz} {p K:List Res} {w:World} {F:α->β->Fz} {KO:α->β->List Res} {G:α->β->Prop}
  (k:∀args w,(callFunc g args).run prog w=.ok (.enter g args) w)
  (t:∀b w,Mem V (.blk b (ob [.int .i64 ((0:Nat):Int)] 31)::p) w->Calls prog g cs.toArray w (fun e w'=>Out r
   (fun x=>∃y,e=.returned (.int .i64 ((0:Nat):Int))/\G x y/\Mem (F x y) (.blk b (ob [.int .i64 ((0:Nat):Int)] 31)::KO x y) w')
   (fun c=>(e=.returned (.int .i64 ((c:Nat):Int))∨c=4/\e=.panicked (tR ()))/\Mem V (.blk b (ob [.int .i64 ((0:Nat):Int)] 31)::K) w')))
  (N:Mem V p w):Calls prog 45 #[.func (.func g) #[] cs.toArray] w (fun e w'=>Out r
   (fun x=>∃y,e=.returned (.int .i64 ((0:Nat):Int))/\G x y/\Mem (F x y) (KO x y) w')
   (fun c=>e=.returned (.int .i64 ((c:Nat):Int))/\Mem V K w')):=by
 refine enterD func45 rfl ntmps45 rfl (fun Q hQ a J=>?_)
 refine sq fun u n=>?_
 refine wp_region_lit ?_
 refine st J rfl rfl rfl (wZ (cs:=[.int .i64 ((0:Nat):Int)]) N zeroValue31 rfl fun b w N a J=>?_)
 refine wpList_nil ?_
 apply n
 refine sq fun z o=>?_
 refine wp_region_lit ?_
 refine xD J (z1d (vfs:=[]) (vcs:=[.pointer (some ⟨b,0,none⟩)]) J rfl rfl) rfl fun a J=>?_
 refine z3c (fs:=[]) (cs:=[.pointer (some ⟨b,0,none⟩)]) (vs:=[]) J rfl rfl fun a J=>?_
 refine wpList_nil ?_
 apply o
 refine sq fun A j=>?_
 refine wp_region_lit ?_
 refine xD J (vW J rfl) rfl fun a J=>?_
 have d:∀(a:Act) (w:World) (c:Int) (m:Fz) (K1:List Res) (E:List (Nat×Value)),EnvR 6 E [{ target:=.fn (.func 102) #[.pointer (some ⟨b,0,none⟩)],args:=#[] }] a->get E 2=some (.pointer (some ⟨b,0,none⟩)) ->
   Mem m (.blk b (ob [.int .i64 c] 31)::K1) w ->
   (Out r (fun x=>∃y,Ending.returned (.int .i64 c)=.returned (.int .i64 ((0:Nat):Int))/\G x y/\Mem (F x y) (KO x y) w) (fun c'=>Ending.returned (.int .i64 c)=.returned (.int .i64 ((c':Nat):Int))/\Mem V K w))->Q .ret a w:=by
  intro a w c m K1 E J k N s
  refine hQ _ _ _ ?_
  show Leaves _ _ _ _ a.defers _ _
  rw [J.defs]
  refine leaves_cons (f:=102) (args:=#[.pointer (some ⟨b,0,none⟩)]) (by simp) (call102 _ _) ?_
  refine catch_idle.mono ?_
  rintro e u' w'' ⟨rfl,rfl,rfl⟩
  exact ⟨.int .i64 c,z7i (i:=0) J N.toSees results45 k rfl rfl isAgg31,s⟩
 have l:∀(a:Act) (w:World) (E:List (Nat×Value)),EnvR 6 E [{ target:=.fn (.func 102) #[.pointer (some ⟨b,0,none⟩)],args:=#[] }] a->get E 2=some (.pointer (some ⟨b,0,none⟩)) ->
   Mem V (.blk b (ob [.int .i64 ((0:Nat):Int)] 31)::K) w->r=.error 4->Q (.panic (tR ())) a w:=by
  intro a w E J k N hr
  refine hQ _ _ _ ?_
  show Leaves _ _ _ _ a.defers _ _
  rw [J.defs]
  refine leaves_cons (f:=102) (args:=#[.pointer (some ⟨b,0,none⟩)]) (by simp) (call102 _ _) ?_
  refine (q7z N).mono ?_
  rintro e u' w'' ⟨rfl,rfl,N⟩
  refine ⟨.int .i64 ((4:Nat):Int),z7i (i:=0) J N.toSees results45 k rfl rfl isAgg31,?_⟩
  subst hr
  exact ⟨rfl,N.del 0⟩
 refine stP J rfl rfl rfl (z8v J rfl rfl k (t b w N) (fun v w h a J=>?_) (fun c w h a J=>?_) (fun w h=>?_))
 ·cases hr:r with
  | ok x=>
   rw [hr] at h
   obtain ⟨y,h1,q,N⟩:=h
   cases h1
   refine st0 J rfl rfl (jR 0 (cs:=[.int .i64 ((0:Nat):Int)]) (vs:=[.int .i64 ((0:Nat):Int)]) J N rfl rfl rfl rfl sizeOf31 rfl rfl rfl fun w N a J=>?_)
   refine wpList_nil ?_
   apply j
   refine wp_ret ?_
   exact d a w _ _ (KO x y) _ J rfl N (by rw [hr];exact ⟨y,rfl,q,N.del 0⟩)
  | error c=>
   rw [hr] at h
   obtain ⟨h1 | h1,N⟩:=h
   ·cases h1
    refine st0 J rfl rfl (jR 0 (cs:=[.int .i64 ((0:Nat):Int)]) (vs:=[.int .i64 ((c:Nat):Int)]) J N rfl rfl rfl rfl sizeOf31 rfl rfl rfl fun w N a J=>?_)
    refine wpList_nil ?_
    apply j
    refine wp_ret ?_
    exact d a w _ _ K _ J rfl N (by rw [hr];exact ⟨rfl,N.del 0⟩)
   ·cases h1.2
 ·cases hr:r with
  | ok x=>
   rw [hr] at h
   obtain ⟨y,h1,_⟩:=h
   cases h1
  | error c'=>
   rw [hr] at h
   obtain ⟨h1 | h1,N⟩:=h
   ·cases h1
   ·obtain ⟨rfl,h1⟩:=h1
    cases h1
    exact l a w _ J rfl N hr
 ·cases hr:r with
  | ok x=>rw [hr] at h;obtain ⟨y,h1,_⟩:=h;cases h1
  | error c'=>
   rw [hr] at h
   obtain ⟨h1 | h1,N⟩:=h
   ·cases h1
   ·cases h1.2
structure Outcome where
 outputs:List Named
 steps:Int
def ROutcome (V:Fz) (cs:List Value) (o:Outcome):Prop:=∃s,cs=[s,.int .i64 o.steps]/\SliceOf RNamed V 4 s o.outputs
theorem ROutcome.mono (V Ψ:Fz) (c:List Value) (x:Outcome) (hl:V.Le Ψ) (h:ROutcome V c x):ROutcome Ψ c x:=let ⟨s,h1,a⟩:=h;⟨s,h1,a.mono RNamed.mono hl⟩
theorem ROutcome.up {V Ψ:Fz} {c:List Value} {x:Outcome} (h:ROutcome V c x) (l:V.Le Ψ):ROutcome Ψ c x:=ROutcome.mono _ _ _ _ l h
def tP:Outcome:=⟨[],0⟩
def jN (os:List Bs) (xs:List Val):List Named:=List.zipWith Named.mk os xs
theorem x2e {os:List Bs} {xs:List Val} {i:Nat} {o:Bs} {x:Val} (h1:os[i]? = some o) (a:xs[i]? = some x):(jN os xs)[i]? = some ⟨o,x⟩:=by
 simp [jN,List.getElem?_zipWith,h1,a]
theorem x2d {os:List Bs} {xs:List Val} {i:Nat} (h:¬i < xs.length):(jN os xs).take i=jN os xs:=List.take_of_length_le (by simp [jN];omega)
theorem aV {C:Ctx} {o:Bs} {os:List Bs} {f:Fun} {g:Nat} (h:zJ C.funs o=some f):jI C (o::os) g=(xC (yM C) f [] g).bind fun v g=>(jI C os g).bind fun l g=>.ok (v::l) g:=by
 simp only [jI,h]
theorem z5n {C:Ctx} {o:Bs} {os:List Bs} {g:Nat} (h:zJ C.funs o=none):jI C (o::os) g=.stuck:=by
 simp only [jI,h]
theorem yL {C:Ctx} {o:Bs} {os:List Bs} {f:Fun} {g1 a:Nat} {z:Val} {xs:List Val} (h:zJ C.funs o=some f) (b:xC (yM C) f [] g1=.ok z a) :
  (jI C (o::os) g1).bind (fun vs g=>.ok (xs++vs) g)=(jI C os a).bind fun vs g=>.ok ((xs++[z])++vs) g:=by
 rw [aV h,b]
 simp only [Ev.bind]
 cases jI C os a <;> simp
theorem pN {C:Ctx} {o:Bs} {os:List Bs} {f:Fun} {g1:Nat} {xs:List Val} (h:zJ C.funs o=some f) (a:xC (yM C) f [] g1=.spent) :
  (jI C (o::os) g1).bind (fun vs g=>.ok (xs++vs) g)=.spent:=by
 rw [aV h,a];rfl
theorem y1f {C:Ctx} {g1:Nat} {xs:List Val}:(jI C [] g1).bind (fun vs g=>.ok (xs++vs) g)=.ok xs g1:=by simp [jI,Ev.bind]
def y1z (r:Ev (List Val)):Except Nat (List Val×Nat):=match r with
 | .ok vs g=>if vs.any vX then .error 7 else .ok (vs,g)
 | _=>.error 4
theorem y3y {r:Ev (List Val)} {vs:List Val} {g:Nat} (h:r=.ok vs g) (hl:vs.any vX=true):y1z r=.error 7:=by subst h;simp only [y1z,hl,if_true]
theorem j7r {r:Ev (List Val)} {vs:List Val} {g:Nat} (h:r=.ok vs g) (hl:vs.any vX=false):y1z r=.ok (vs,g):=by subst h;simp only [y1z,hl];rfl
theorem aI {r:Ev (List Val)} (h:r=.spent):y1z r=.error 4:=by subst h;rfl
theorem endOut {r:Except Nat (List Val×Nat)} {x:List Val×Nat} {A:List Val×Nat->Prop} {B:Nat->Prop} (h:r=.ok x) (a:A x):Out r A B:=by subst h;exact a
theorem z6k {r:Except Nat (List Val×Nat)} {x:Nat} {A:List Val×Nat->Prop} {B:Nat->Prop} (h:r=.error x) (a:B x):Out r A B:=by subst h;exact a
def sV (c:Core) (l:List Named) (fuel:Int):Outcome×Int :=
 if yR c≠0 then (tP,yR c)
 else if fuel < 0∨200000 < fuel then (tP,1)
 else if kL (zE c) l c.inputs=false then (tP,8)
 else match y1z (jI ⟨(zE c).funs,y2b l⟩ c.outputs fuel.toNat) with
  | .ok (vs,g)=>(⟨jN c.outputs vs,((fuel.toNat - g:Nat):Int)⟩,0)
  | .error e=>(tP,((e:Nat):Int))
theorem qY (l:List Int) (x:Int):z4k (l++[x])=z4k l++[.int .i64 x]:=by simp [z4k]
def Fz.whole (W:World):Fz:=⟨fun b=>W.heap[b]?,W.os,W.output⟩
theorem Mem.whole (W:World):Mem (Fz.whole W) [] W :=
 { fz:=fun _ _ h=>h,own:=fun _ h=>(by cases h),os:=rfl,out:=rfl,nodup:=List.nodup_nil,apart:=fun _ h=>(by cases h) }
theorem y3h {W:World} {a:Addr} {v:Value} (h:W.cell? a=some v):a.spot=none/\∃arr T fr,W.heap[a.block]? = some (.cells arr T fr)/\arr[a.off]? = some v:=by
 unfold World.cell? at h
 split at h
 ·rename_i c T fr J
  split at h
  ·cases h
  ·rename_i O
   refine ⟨?_,c,T,fr,J,h⟩
   cases hq:a.spot with
   | none=>rfl
   | some x=>simp [hq] at O
 ·cases h
theorem q7p {W:World} {a:Addr} {cells:List Value} (b:cells≠[]) (h:∀(j:Nat) (v:Value),cells[j]? = some v->W.cell? (a.add j)=some v):At (Fz.whole W) a cells:=by
 obtain ⟨v0,r,rfl⟩:=List.exists_cons_of_ne_nil b
 obtain ⟨O,arr,T,fr,hb,c⟩:=y3h (h 0 v0 rfl)
 rw [show a.add 0=a from rfl] at O hb c
 refine ⟨O,arr,T,fr,hb,fun j v d=>?_⟩
 obtain ⟨_,arr',T',fr',hb',h1⟩:=y3h (h j v d)
 have eb:(a.add j).block=a.block:=by unfold Addr.add;split <;> rfl
 have eo:(a.add j).off=a.off+j:=by unfold Addr.add;split <;> simp_all
 rw [eb,hb] at hb'
 simp only [Option.some.injEq,Obj.cells.injEq] at hb'
 rw [eo,<- hb'.1] at h1
 exact h1
section
variable {H:Type} {enc:TypeId×Value->H} {W:World}
noncomputable abbrev trd (enc:TypeId×Value->H) (W:World) (n:Nat) (t:TypeId) (cs:List Value):=DataW.trod enc prog W 0 (fun _=>true) true n t cs
theorem wQ {α:Type} {R:Fz->List Value->α->Prop} {t e:TypeId} {k fuel:Nat} {cs:List Value} {x:DataW H×List MemPlace} (w:prog.underlying t=some (.slice e)) (u:prog.cellsOf e=k) (B:0 < k)
  (IH:∀m,m < fuel->∀cs x,trd enc W m e cs=some x->∃a:α,R (Fz.whole W) cs a) (h:trd enc W fuel t cs=some x):∃v l,cs=[v]/\SliceOf R (Fz.whole W) k v l:=by
 rcases DataW.trod_slice w h with ⟨rfl,_⟩ | ⟨a,len,cap,elems,rest,n,rfl,rfl,_,_,hl,N,r,d,_⟩
 ·exact ⟨_,[],rfl,SliceOf.nil k⟩
 ·rw [u] at d
  have key:∀m,m<=len->∃(cells:List Value) (l:List α),cells.length=m * k/\Chunks (R (Fz.whole W)) k cells l/\∀(j:Nat) (v:Value),cells[j]? = some v->W.cell? (a.add j)=some v:=by
   intro m
   induction m with
   | zero=>exact fun _=>⟨[],[],by simp,rfl,fun j v c=>by simp at c⟩
   | succ m A=>
    intro hm'
    obtain ⟨cells,l,h1,o,p⟩:=A (by omega)
    have J:=d m (by omega)
    rw [List.getElem?_eq_getElem (by omega)] at J
    obtain ⟨cs',s,e2⟩:=Option.bind_eq_some_iff.1 J
    obtain ⟨_,g,b⟩:=World.cells?_some s
    obtain ⟨y,z⟩:=IH n (Nat.lt_succ_self n) cs' _ e2
    refine ⟨cells++cs',l++[y],by rw [laQ,h1,g,Nat.succ_mul],o.snoc g z,fun j v c=>?_⟩
    by_cases i:j < cells.length
    ·rw [List.getElem?_append_left i] at c
     exact p j v c
    ·rw [List.getElem?_append_right (by omega)] at c
     have f:j - cells.length < k:=by
      have:=(List.getElem?_eq_some_iff.1 c).1
      omega
     have:=b (j - cells.length) f
     rw [Deep.add_add,c] at this
     rw [h1] at this i f
     rw [show m * k+(j - m * k)=j by omega] at this
     exact this
  obtain ⟨cells,l,h1,o,p⟩:=key len (Nat.le_refl _)
  exact ⟨_,l,rfl,cells,.inr ⟨a,len,cap,rfl,h1,by omega,fun q=>q7p q p⟩,o⟩
theorem qN {α:Type} {l:List α} {n:Nat} (h:l.length=n+1):∃a r,l=a::r/\r.length=n:=by
 cases l with
 | nil=>cases h
 | cons a r=>exact ⟨a,r,rfl,by simpa using h⟩
theorem i64_of {n:Int} (h:(Lit.int .i64 n).wf=true):I64 n:=by
 simp only [Lit.wf,baQ,decide_eq_true_eq] at h
 have h1:=h.1
 have a:=h.2
 simp [IntKind.min,IntKind.max,IntKind.signed,IntKind.bits] at h1 a
 exact ⟨by omega,by omega⟩
theorem pX {n:Nat} {cs:List Value} {x:DataW H×List MemPlace} (h:trd enc W n 9 cs=some x):∃s:Bs,cs=[.string s]:=by
 obtain ⟨s,h1,_⟩:=DataW.trod_string underlying9 h
 exact ⟨s,h1⟩
theorem x3g {n:Nat} {cs:List Value} {x:DataW H×List MemPlace} (h:trd enc W n 9 cs=some x):∃s:Bs,RStr (Fz.whole W) cs s:=pX h
theorem z6s {n:Nat} {cs:List Value} {x:DataW H×List MemPlace} (h:trd enc W n 3 cs=some x):∃i:Int,cs=[.int .i64 i]/\I64 i:=by
 obtain ⟨i,h1,_,a⟩:=DataW.trod_int underlying3 h
 exact ⟨i,h1,i64_of a⟩
theorem nA {t:TypeId} {fs:Array Field} {n:Nat} {cs:List Value} {x:DataW H×List MemPlace} (k:prog.underlying t=some (.struct fs)) (h:trd enc W n t cs=some x) :
  ∃m,n=m+1/\cs.length=prog.cellsOf t/\∀(i:Nat) (u:TypeId) (o:Nat),(fs[i]?).map (fun f=>(f.type,f.offset))=some (u,o)->∃y,trd enc W m u ((cs.drop o).take (prog.cellsOf u))=some y:=by
 obtain ⟨xs,m,h1,_,b,c,d⟩:=DataW.trod_struct k h
 refine ⟨m,h1,b,fun i u o g=>?_⟩
 obtain ⟨f,a,e⟩:=Option.map_eq_some_iff.1 g
 simp only [Prod.mk.injEq] at e
 obtain ⟨rfl,rfl⟩:=e
 have j:i < xs.length:=by
  rw [c]
  exact (Array.getElem?_eq_some_iff.1 a).1
 exact ⟨xs[i],by rw [<- List.getElem?_eq_getElem j];exact d i f a⟩
theorem c9:prog.cellsOf 9=1:=by kernel_rfl
theorem c3:prog.cellsOf 3=1:=by kernel_rfl
theorem c66:prog.cellsOf 66=5:=by kernel_rfl
theorem c195:prog.cellsOf 195=7:=by kernel_rfl
theorem c42:prog.cellsOf 42=3:=by kernel_rfl
theorem c62:prog.cellsOf 62=4:=by kernel_rfl
theorem c72:prog.cellsOf 72=2:=by kernel_rfl
theorem c135:prog.cellsOf 135=2:=by kernel_rfl
theorem c133:prog.cellsOf 133=2:=by kernel_rfl
theorem c68:prog.cellsOf 68=8:=by kernel_rfl
theorem c27:prog.cellsOf 27=4:=by kernel_rfl
theorem c25:prog.cellsOf 25=1:=by kernel_rfl
theorem c63:prog.cellsOf 63=1:=by kernel_rfl
theorem c64:prog.cellsOf 64=1:=by kernel_rfl
theorem c38:prog.cellsOf 38=1:=by kernel_rfl
theorem c23:prog.cellsOf 23=1:=by kernel_rfl
theorem c22:prog.cellsOf 22=1:=by kernel_rfl
theorem c24:prog.cellsOf 24=1:=by kernel_rfl
theorem c131:prog.cellsOf 131=1:=by kernel_rfl
theorem z9r {n:Nat} {cs:List Value} {x:DataW H×List MemPlace} (h:trd enc W n 25 cs=some x):∃v l,cs=[v]/\SliceOf RStr (Fz.whole W) 1 v l :=
 wQ underlying25 c9 (by decide) (fun _ _ _ _ h=>x3g h) h
theorem x1g:∀(n:Nat) (cs:List Value) (x:DataW H×List MemPlace),trd enc W n 66 cs=some x->∃e:Ex,REx (Fz.whole W) cs e:=by
 intro n
 induction n using Nat.strongRecOn with
 | ind n A=>
  intro cs x h
  obtain ⟨m,rfl,hl,a⟩:=nA underlying66 h
  rw [c66] at hl
  obtain ⟨a0,r,rfl,g⟩:=qN hl
  obtain ⟨K,r,rfl,i⟩:=qN g
  obtain ⟨a2,r,rfl,l⟩:=qN i
  obtain ⟨a3,r,rfl,o⟩:=qN l
  obtain ⟨a4,r,rfl,p⟩:=qN o
  obtain rfl:=List.eq_nil_of_length_eq_zero p
  obtain ⟨_,v⟩:=a 0 3 0 rfl
  obtain ⟨_,w⟩:=a 1 3 1 rfl
  obtain ⟨_,y⟩:=a 2 9 2 rfl
  obtain ⟨_,f3⟩:=a 3 63 3 rfl
  obtain ⟨_,f4⟩:=a 4 64 4 rfl
  simp only [c3,c9,c63,c64,List.drop_succ_cons,List.drop_zero,List.take_succ_cons,List.take_zero] at v w y f3 f4
  obtain ⟨k,c,_⟩:=z6s v
  obtain ⟨nm,d,h1⟩:=z6s w
  obtain ⟨s,e2⟩:=pX y
  obtain ⟨v3,G,t,B⟩:=wQ (R:=REx) underlying63 c66 (by decide) (fun j D cs x h=>A j (by omega) cs x h) f3
  obtain ⟨v4,I,u,C⟩:=wQ (R:=RArm) underlying64 c195 (by decide) (fun j D cs x h=>by
   obtain ⟨m',rfl,hl,a⟩:=nA underlying195 h
   rw [c195] at hl
   obtain ⟨L,r,rfl,q⟩:=qN hl
   obtain ⟨M,r,rfl,E⟩:=qN q
   obtain ⟨_,z⟩:=a 0 9 0 rfl
   obtain ⟨_,g1⟩:=a 1 25 1 rfl
   obtain ⟨_,f⟩:=a 2 66 2 rfl
   simp only [c9,c25,c66,List.drop_succ_cons,List.drop_zero,List.take_succ_cons,List.take_zero] at z g1 f
   rw [List.take_of_length_le (by omega)] at f
   obtain ⟨s,c⟩:=pX z
   obtain ⟨P,F,d,h1⟩:=z9r g1
   obtain ⟨b,hb⟩:=A m' (by omega) _ _ f
   simp only [List.cons.injEq,and_true] at c d
   subst c d
   exact ⟨.mk s F b,⟨_,r,rfl,by omega,h1,hb⟩⟩) f4
  simp only [List.cons.injEq,and_true] at c d e2 t u
  subst c d e2 t u
  exact ⟨.mk k nm s G I,REx.iff.2 ⟨_,_,rfl,h1,B,C⟩⟩
theorem y7i:∀(n:Nat) (cs:List Value) (x:DataW H×List MemPlace),trd enc W n 42 cs=some x->∃e:Val,RVal (Fz.whole W) cs e:=by
 intro n
 induction n using Nat.strongRecOn with
 | ind n t=>
  intro cs x h
  obtain ⟨m,rfl,hl,b⟩:=nA underlying42 h
  rw [c42] at hl
  obtain ⟨a0,r,rfl,c⟩:=qN hl
  obtain ⟨u,r,rfl,d⟩:=qN c
  obtain ⟨a2,r,rfl,a⟩:=qN d
  obtain rfl:=List.eq_nil_of_length_eq_zero a
  obtain ⟨_,k⟩:=b 0 9 0 rfl
  obtain ⟨_,o⟩:=b 1 3 1 rfl
  obtain ⟨_,p⟩:=b 2 38 2 rfl
  simp only [c3,c9,c38,List.drop_succ_cons,List.drop_zero,List.take_succ_cons,List.take_zero] at k o p
  obtain ⟨s,f⟩:=pX k
  obtain ⟨i,g,h1⟩:=z6s o
  obtain ⟨v,l,e2,q⟩:=wQ (R:=RVal) underlying38 c42 (by decide) (fun j w cs x h=>t j (by omega) cs x h) p
  simp only [List.cons.injEq,and_true] at f g e2
  subst f g e2
  exact ⟨.mk s i l,RVal.iff.2 ⟨_,rfl,h1,q⟩⟩
theorem j5c {n:Nat} {cs:List Value} {x:DataW H×List MemPlace} (h:trd enc W n 72 cs=some x):∃p:Param,RParam (Fz.whole W) cs p:=by
 obtain ⟨m,rfl,hl,g⟩:=nA underlying72 h
 rw [c72] at hl
 obtain ⟨a0,r,rfl,a⟩:=qN hl
 obtain ⟨i,r,rfl,b⟩:=qN a
 obtain rfl:=List.eq_nil_of_length_eq_zero b
 obtain ⟨_,e⟩:=g 0 9 0 rfl
 obtain ⟨_,f⟩:=g 1 9 1 rfl
 simp only [c9,List.drop_succ_cons,List.drop_zero,List.take_succ_cons,List.take_zero] at e f
 obtain ⟨s,c⟩:=pX e
 obtain ⟨u,d⟩:=pX f
 simp only [List.cons.injEq,and_true] at c d
 subst c d
 exact ⟨⟨s,u⟩,rfl⟩
theorem x5a {n:Nat} {cs:List Value} {x:DataW H×List MemPlace} (h:trd enc W n 135 cs=some x):∃p:Con,RCon (Fz.whole W) cs p:=by
 obtain ⟨m,rfl,hl,g⟩:=nA underlying135 h
 rw [c135] at hl
 obtain ⟨a0,r,rfl,a⟩:=qN hl
 obtain ⟨i,r,rfl,b⟩:=qN a
 obtain rfl:=List.eq_nil_of_length_eq_zero b
 obtain ⟨_,e⟩:=g 0 9 0 rfl
 obtain ⟨_,f⟩:=g 1 25 1 rfl
 simp only [c9,c25,List.drop_succ_cons,List.drop_zero,List.take_succ_cons,List.take_zero] at e f
 obtain ⟨s,c⟩:=pX e
 obtain ⟨v,l,d,h1⟩:=z9r f
 simp only [List.cons.injEq,and_true] at c d
 subst c d
 exact ⟨⟨s,l⟩,_,rfl,h1⟩
theorem x0p {n:Nat} {cs:List Value} {x:DataW H×List MemPlace} (h:trd enc W n 133 cs=some x):∃p:Data,RData (Fz.whole W) cs p:=by
 obtain ⟨m,rfl,hl,g⟩:=nA underlying133 h
 rw [c133] at hl
 obtain ⟨a0,r,rfl,a⟩:=qN hl
 obtain ⟨i,r,rfl,b⟩:=qN a
 obtain rfl:=List.eq_nil_of_length_eq_zero b
 obtain ⟨_,e⟩:=g 0 9 0 rfl
 obtain ⟨_,f⟩:=g 1 131 1 rfl
 simp only [c9,c131,List.drop_succ_cons,List.drop_zero,List.take_succ_cons,List.take_zero] at e f
 obtain ⟨s,c⟩:=pX e
 obtain ⟨v,l,d,h1⟩:=wQ (R:=RCon) underlying131 c135 (by decide) (fun _ _ _ _ h=>x5a h) f
 simp only [List.cons.injEq,and_true] at c d
 subst c d
 exact ⟨⟨s,l⟩,_,rfl,h1⟩
theorem y1g {n:Nat} {cs:List Value} {x:DataW H×List MemPlace} (h:trd enc W n 23 cs=some x):∃v l,cs=[v]/\SliceOf RParam (Fz.whole W) 2 v l :=
 wQ underlying23 c72 (by decide) (fun _ _ _ _ h=>j5c h) h
theorem x6u {n:Nat} {cs:List Value} {x:DataW H×List MemPlace} (h:trd enc W n 68 cs=some x):∃p:Fun,RFun (Fz.whole W) cs p:=by
 obtain ⟨m,rfl,hl,d⟩:=nA underlying68 h
 rw [c68] at hl
 obtain ⟨a0,r,rfl,a⟩:=qN hl
 obtain ⟨o,r,rfl,c⟩:=qN a
 obtain ⟨a2,r,rfl,k⟩:=qN c
 obtain ⟨_,g⟩:=d 0 9 0 rfl
 obtain ⟨_,i⟩:=d 1 23 1 rfl
 obtain ⟨_,j⟩:=d 2 9 2 rfl
 obtain ⟨_,f3⟩:=d 3 66 3 rfl
 simp only [c9,c23,c66,List.drop_succ_cons,List.drop_zero,List.take_succ_cons,List.take_zero] at g i j f3
 rw [List.take_of_length_le (by omega)] at f3
 obtain ⟨s,e⟩:=pX g
 obtain ⟨v,l,f,h1⟩:=y1g i
 obtain ⟨u,e2⟩:=pX j
 obtain ⟨b,hb⟩:=x1g _ _ _ f3
 simp only [List.cons.injEq,and_true] at e f e2
 subst e f e2
 exact ⟨⟨s,l,u,b⟩,_,r,rfl,h1,hb⟩
theorem x0l {n:Nat} {cs:List Value} {x:DataW H×List MemPlace} (h:trd enc W n 27 cs=some x):∃p:Core,RCore (Fz.whole W) cs p:=by
 obtain ⟨m,rfl,hl,e⟩:=nA underlying27 h
 rw [c27] at hl
 obtain ⟨a0,r,rfl,a⟩:=qN hl
 obtain ⟨y,r,rfl,b⟩:=qN a
 obtain ⟨a2,r,rfl,c⟩:=qN b
 obtain ⟨a3,r,rfl,d⟩:=qN c
 obtain rfl:=List.eq_nil_of_length_eq_zero d
 obtain ⟨_,j⟩:=e 0 22 0 rfl
 obtain ⟨_,k⟩:=e 1 23 1 rfl
 obtain ⟨_,l⟩:=e 2 24 2 rfl
 obtain ⟨_,f3⟩:=e 3 25 3 rfl
 simp only [c22,c23,c24,c25,List.drop_succ_cons,List.drop_zero,List.take_succ_cons,List.take_zero] at j k l f3
 obtain ⟨v0,t,f,o⟩:=wQ (R:=RData) underlying22 c133 (by decide) (fun _ _ _ _ h=>x0p h) j
 obtain ⟨z,u,g,h1⟩:=y1g k
 obtain ⟨v2,v,e2,q⟩:=wQ (R:=RFun) underlying24 c68 (by decide) (fun _ _ _ _ h=>x6u h) l
 obtain ⟨v3,w,i,s⟩:=z9r f3
 simp only [List.cons.injEq,and_true] at f g e2 i
 subst f g e2 i
 exact ⟨⟨t,u,v,w⟩,_,_,_,_,rfl,o,h1,q,s⟩
theorem j4r {n:Nat} {cs:List Value} {x:DataW H×List MemPlace} (h:trd enc W n 62 cs=some x):∃p:Named,RNamed (Fz.whole W) cs p:=by
 obtain ⟨m,rfl,hl,d⟩:=nA underlying62 h
 rw [c62] at hl
 obtain ⟨a0,r,rfl,e⟩:=qN hl
 obtain ⟨_,c⟩:=d 0 9 0 rfl
 obtain ⟨_,a⟩:=d 1 42 1 rfl
 simp only [c9,c42,List.drop_succ_cons,List.drop_zero,List.take_succ_cons,List.take_zero] at c a
 rw [List.take_of_length_le (by omega)] at a
 obtain ⟨s,b⟩:=pX c
 obtain ⟨v,f⟩:=y7i _ _ _ a
 simp only [List.cons.injEq,and_true] at b
 subst b
 exact ⟨⟨s,v⟩,r,rfl,f⟩
theorem j0l {n:Nat} {cs:List Value} {x:DataW H×List MemPlace} (h:trd enc W n 28 cs=some x):∃v l,cs=[v]/\SliceOf RNamed (Fz.whole W) 4 v l :=
 wQ underlying28 c62 (by decide) (fun _ _ _ _ h=>j4r h) h
theorem j1y {n:Nat} {cs:List Value} {x:DataW H×List MemPlace} (h:trd enc W n 38 cs=some x):∃v l,cs=[v]/\SliceOf RVal (Fz.whole W) 3 v l :=
 wQ underlying38 c42 (by decide) (fun _ _ _ _ h=>y7i _ _ _ h) h
end
end Go.Sw
namespace Go.Proofs.YtgkhcfjooiekkaaGreatDoor
open Go.ChangeShapes Go.WideShapes Go.ChangeAt Go.RowKit Go.Sw
theorem own:ownKnob Tryz.prog.godebug=none:=by kernel_rfl
theorem laidOut:laidOutB Tryz.prog=true:=by kernel_rfl
abbrev laidAll:List (String×DataW Unit):=Rows.coreFuelRow.laid
theorem q8b {W:World} {g:Nat} {cs:List Value} (h:∀(i:Nat) (v:Value),cs[i]? = some v->W.cell? ⟨g,i,none⟩=some v) (a:cs≠[]):At (Fz.whole W) ⟨g,0,none⟩ cs :=
 q7p a fun j v b=>by
  have:=h j v b
  have e:(⟨g,0,none⟩:Addr).add j=⟨g,j,none⟩:=by unfold Addr.add;split <;> simp_all
  rw [e];exact this
theorem x2a {W:World} (b:W.ShapedOpen Tryz.prog):∃m,At (Fz.whole W) ⟨0,0,none⟩ [.int .i64 m]:=by
 obtain ⟨m,N⟩:=cell_of_shapedOpen_int (P:=Tryz.prog) (g:=0) (t:=3) (k:=.i64) (zero:=#[.int .i64 0]) b (of_decide_eq_true (by kernel_rfl)) (by kernel_rfl) rfl (by kernel_rfl) (by kernel_rfl) (by kernel_rfl)
 exact ⟨m,q8b (fun i v a=>by
  cases i with
  | zero=>simp at a;subst a;exact N
  | succ i=>simp at a) (by simp)⟩
theorem q6p {W:World} (d:laidMet Tryz.prog laidAll W):Tabs (Fz.whole W):=by
 have c:laidMet Tryz.prog (("internal/strconv.uint64pow10",Lib.tabData .u64 Lib.pow10Tab)::_) W:=d.tail.tail
 have a:=Lib.tabIs_of_head (P:=Tryz.prog) (g:=1) (t:=291) (e:=241) (n:=20) (by kernel_rfl) (by kernel_rfl) (by kernel_rfl) (by kernel_rfl) (by kernel_rfl) (by kernel_rfl) c
 intro w O
 unfold Lib.TabIs at a ⊢
 unfold World.var? at a ⊢
 cases b:Tryz.prog.globalNamed "internal/strconv.uint64pow10" with
 | none=>rw [b] at a;cases a
 | some g=>
  rw [b] at a
  simp only [Option.bind_some] at a ⊢
  split at a
  ·rename_i cs t fr J
   rw [O.fz g _ J]
   exact a
  ·cases a
theorem err_at {W:World} {n:String} {d:DataW Unit} {g:Nat} {r:List (String×DataW Unit)} (h:laidMet Tryz.prog ((n,d)::r) W) (f:Tryz.prog.globalNamed n=some g) (l:(Tryz.prog.globals[g]?).map (·.type)=some 138):ErrAt (Fz.whole W) g:=by
 obtain ⟨ps,⟨g',t',cs,fuel,p,q,hg',ht',a,b,_,_⟩,_⟩:=h
 obtain rfl:=Option.some.inj (f.symm.trans hg')
 obtain rfl:=Option.some.inj (l.symm.trans ht')
 have key:∃v,cs.toList=[v]/\(v=.nilIface∨∃t p,v=.iface t p):=by
  cases fuel with
  | zero=>simp [DataW.trod] at b
  | succ fuel=>
   unfold DataW.trod at b
   generalize j:Tryz.prog.underlying 138=u at b
   have e:∃ms,u=some (.interface ms):=⟨_,j.symm.trans Tryz.underlying138⟩
   clear j
   obtain ⟨ms,rfl⟩:=e
   split at b <;> simp_all
 obtain ⟨v,m,k⟩:=key
 refine ⟨v,q8b (fun i u c=>?_) (by simp),k⟩
 cases i with
 | zero=>
  simp at c;subst c
  have:=World.var?_cell f a 0
  rw [this,<- Array.getElem?_toList,m]
  rfl
 | succ i=>simp at c
theorem j8g {W:World} (b:W.ShapedOpen Tryz.prog) (a:laidMet Tryz.prog laidAll W):Glob (Fz.whole W) :=
 ⟨x2a b,q6p a,err_at (g:=4) a.tail.tail.tail.tail.tail (by kernel_rfl) (by kernel_rfl),err_at (g:=5) a.tail.tail.tail.tail (by kernel_rfl) (by kernel_rfl)⟩
end Go.Proofs.YtgkhcfjooiekkaaGreatDoor
namespace Go.Proofs.YtgkhcfjooiekkaaGreatDoor
open Go.ChangeShapes Go.WideShapes Go.ChangeAt Go.RowKit Go.Sw
set_option maxRecDepth 100000
section
variable {H:Type} {enc:TypeId×Value->H}
theorem j6t {a:Assume} {C:Checked} {os:Os} {f:FuncId} {fn:Func} {s:ChangeSpec} {conds:List PathCond} {apart fresh handsOn again:Bool} {X:World->Array Value->Prop}
  (l:∀(w w':World) (args:Array Value),w.heap=w'.heap->X w args->X w' args)
  (own:ownKnob C.prog.godebug=none) (started:os.Started) (noInit:C.prog.inits.idxOf? f=none) (d:C.prog.funcs[f]? = some fn)
  (witness:∃(w:World) (tape:Tape) (i:Input),w.os=os/\(w.forCall tape i).Shaped C.prog/\i.vars=[]/\Input.okWide C.prog (w.forCall tape i) .any w.heap.size f i /\
   ((s.pre enc C.prog fn conds apart (w.forCall tape i).memory i.args/\X (w.forCall tape i).memory i.args)/\sizedMet enc C.prog fn (OpenSpec.ofChange s) apart (w.forCall tape i).memory i.args)/\a.holds C.prog (lone (Frame.enter C.prog f i.args .normal) [] (w.forCall tape i)))
  (contract:∀(W:World) (base:Nat) (args:Array Value) (ds gs:List (DataW H)) (before:List MemPlace),
   (∀(j:Nat) t v,fn.params[j]? = some t->args[j]? = some v->Value.okWide C.prog W .any base t v) ->
   DataW.Whole enc C.prog fn.params.toList s.vars apart W args.toList ds gs before->X W args->sizedMet enc C.prog fn (OpenSpec.ofChange s) apart W args->W.ShapedOpen C.prog ->
   Calls C.prog f args W fun e W'=>∃v,e=.returned v/\s.post enc C.prog fn apart fresh handsOn again W args v W') :
  ReturnsInHanded a C os f .any (fun w args=>(s.pre enc C.prog fn conds apart w args/\X w args)/\sizedMet enc C.prog fn (OpenSpec.ofChange s) apart w args) (s.post enc C.prog fn apart fresh handsOn again):=by
 refine returnsInHanded_of_calls own started noInit witness ?_
 intro w tape i _ k _ g b _
 obtain ⟨_,_,_,fn',hfn',_,_,_,_,c⟩:=g
 have e:fn'=fn:=Option.some.inj (hfn'.symm.trans d)
 subst e
 obtain ⟨⟨⟨ds,gs,before,m,_⟩,n⟩,h,ds',gs',before',o,hz'⟩:=b
 have hw':=DataW.Whole.of_heap (w':=w.forCall tape i) (by rfl) m
 refine (contract (w.forCall tape i) w.heap.size i.args ds gs before c hw' (l _ _ _ (by rfl) n) ⟨h,ds',gs',before',DataW.Whole.of_heap (w':=w.forCall tape i) (by rfl) o,hz'⟩ k).mono fun e W' ⟨v,J,h⟩=>?_
 subst J
 exact ChangeSpec.post_blind h
theorem y1o {a:Assume} {C:Checked} {os:Os} {f:FuncId} {fn:Func} {s:ChangeSpec} {conds:List PathCond} {apart fresh handsOn again:Bool} {X:World->Array Value->Prop}
  (h:∀(w w':World) (args:Array Value),w.heap=w'.heap->X w args->X w' args)
  (own:ownKnob C.prog.godebug=none) (started:os.Started) (noInit:C.prog.inits.idxOf? f=none) (b:C.prog.funcs[f]? = some fn)
  (witness:∃(w:World) (tape:Tape) (i:Input),w.os=os/\(w.forCall tape i).Shaped C.prog/\i.vars=[]/\Input.okWide C.prog (w.forCall tape i) .any w.heap.size f i /\
   ((s.pre enc C.prog fn conds apart (w.forCall tape i).memory i.args/\X (w.forCall tape i).memory i.args)/\sizedMet enc C.prog fn (OpenSpec.ofChange s) apart (w.forCall tape i).memory i.args)/\a.holds C.prog (lone (Frame.enter C.prog f i.args .normal) [] (w.forCall tape i)))
  (contract:∀(W:World) (base:Nat) (args:Array Value) (ds gs:List (DataW H)) (before:List MemPlace),
   (∀(j:Nat) t v,fn.params[j]? = some t->args[j]? = some v->Value.okWide C.prog W .any base t v) ->
   DataW.Whole enc C.prog fn.params.toList s.vars apart W args.toList ds gs before->X W args->W.ShapedOpen C.prog ->
   Calls C.prog f args W fun e W'=>∃v,e=.returned v/\s.post enc C.prog fn apart fresh handsOn again W args v W') :
  ReturnsInHanded a C os f .any (fun w args=>(s.pre enc C.prog fn conds apart w args/\X w args)/\sizedMet enc C.prog fn (OpenSpec.ofChange s) apart w args) (s.post enc C.prog fn apart fresh handsOn again):=by
 exact j6t h own started noInit b witness fun W base args ds gs before h1 c d _ g=>contract W base args ds gs before h1 c d g
theorem z5m {W W':World} (N:Mem (Fz.whole W) [] W'):∀k,k < W.heap.size->W'.heap[k]? = W.heap[k]? := fun k a=>by
 have h:W.heap[k]? = some W.heap[k]:=Array.getElem?_eq_getElem a
 rw [h]
 exact N.fz k _ h
theorem x7x {W W':World} (N:Mem (Fz.whole W) [] W'):W.heap.size<=W'.heap.size:=by
 rcases Nat.lt_or_ge W'.heap.size W.heap.size with h | h
 ·have h1:=z5m N W'.heap.size h
  rw [Array.getElem?_eq_getElem h] at h1
  simp at h1
 ·exact h
theorem j6m {W W':World} (N:Mem (Fz.whole W) [] W') {t:TypeId} (hr:Tryz.prog.readableRec t=true) (a:t < Tryz.prog.types.size) {v:Value} {d:DataW H} {ps:List MemPlace}
  (h:DataW.Trod enc Tryz.prog W 0 (fun _=>true) true t v d ps) (c:∀x∈ps,x.block < W.heap.size):DataW.Trod enc Tryz.prog W' 0 (fun b=>decide (b < W.heap.size)) true t v d ps:=by
 have O:=x7x N
 have e:=z5m N
 have hb:Below W.heap.size W { W with heap:=W'.heap }:={ os:=rfl,tape:=rfl,output:=rfl,size:=O,block:=e }
 exact DataW.Trod.of_heap (w:={ W with heap:=W'.heap }) (w':=W') rfl (Below.trod laidOut hr a h hb c)
theorem y2t {W W':World} (N:Mem (Fz.whole W) [] W'):∀{ts:List TypeId} {vs:List Value} {ds:List (DataW H)} {p:List MemPlace},(∀t∈ts,Tryz.prog.readableRec t=true/\t < Tryz.prog.types.size) ->
  DataW.TrodAll enc Tryz.prog W 0 (fun _=>true) true ts vs ds p->(∀x∈p,x.block < W.heap.size)->DataW.TrodAll enc Tryz.prog W' 0 (fun b=>decide (b < W.heap.size)) true ts vs ds p
 | [],_,_,_,_,h,_=>by
  obtain ⟨rfl,rfl,rfl⟩:=trodAll_nil h
  exact h
 | t::ts,_,_,_,hr,h,a=>by
  obtain ⟨v,vs,d,ds,p,q,rfl,rfl,rfl,h1,e⟩:=trodAll_cons h
  exact ⟨p,q,j6m N (hr t msQ).1 (hr t msQ).2 h1 (fun x c=>a x (List.mem_append_left _ c)),
   y2t N (fun u f=>hr u (mcQ _ f)) e (fun x c=>a x (List.mem_append_right _ c)),rfl⟩
theorem j0d {fn:Func} {s:ChangeSpec} {apart fresh handsOn:Bool} {W W':World} {args:Array Value} {ds gs:List (DataW H)} {before:List MemPlace}
  (b:DataW.Whole enc Tryz.prog fn.params.toList s.vars apart W args.toList ds gs before) (g:s.vars=[]) (d:∀gs:List (DataW H),gs=[]->s.fn H (ds++gs)={ results:=[.lit (.bool true)],args:=ds }) (a:fn.resultTypes=#[4])
  (hr:∀t∈fn.params.toList,Tryz.prog.readableRec t=true/\t < Tryz.prog.types.size) (N:Mem (Fz.whole W) [] W'):s.post enc Tryz.prog fn apart fresh handsOn false W args (.bool true) W':=by
 have e:=b.lt
 have hW':=b
 obtain ⟨p,q,i,f,rfl,_,_⟩:=b
 rw [g] at f
 obtain ⟨rfl,rfl⟩:=trodVars_none f
 have c:=d [] rfl
 refine ⟨ds,[],_,[],p,[],hW',?_,?_,?_,?_,fun h=>by cases h⟩
 ·rw [c,a]
  exact trodAll_mk1 (shut_bool Tryz.underlying4 true)
 ·rw [c]
  exact y2t N hr i (fun x j=>e x (by simpa using j))
 ·rw [c,g]
  exact rfl
 ·exact World.keptBut_mono (fun _ h=>h.elim) (World.keptBut_none_iff.2 ⟨N.os,N.out,z5m N⟩)
theorem agg_of {t:TypeId} {W:World} {base:Nat} {v:Value} {fs:Array Field} (a:Tryz.prog.underlying t=some (.struct fs)) (h:Value.okWide Tryz.prog W .any base t v):∃cs:List Value,v=.agg cs.toArray:=by
 obtain ⟨cs,rfl,_⟩:=okWide_struct a h
 exact ⟨cs.toList,by simp⟩
theorem q8q {W:World} {base:Nat} {v:Value} {d:DataW H} {p:List MemPlace} (e:Value.okWide Tryz.prog W .any base 27 v) (h:DataW.Trod enc Tryz.prog W 0 (fun _=>true) true 27 v d p):∃cs c,v=.agg (List.toArray cs)/\RCore (Fz.whole W) cs c:=by
 obtain ⟨cs,rfl⟩:=agg_of Tryz.underlying27 e
 obtain ⟨fuel,b⟩:=h
 obtain ⟨c,a⟩:=x0l (enc:=enc) (W:=W) (n:=fuel) (cs:=cs) b
 exact ⟨cs,c,rfl,a⟩
theorem j4t {W:World} {base:Nat} {v:Value} {d:DataW H} {p:List MemPlace} (c:Value.okWide Tryz.prog W .any base 28 v) (h:DataW.Trod enc Tryz.prog W 0 (fun _=>true) true 28 v d p):∃l,SliceOf RNamed (Fz.whole W) 4 v l:=by
 obtain ⟨a,len,cap,rfl⟩:=okWide_slice Tryz.underlying28 c
 obtain ⟨fuel,b⟩:=h
 obtain ⟨v,l,e,hl⟩:=j0l (enc:=enc) (W:=W) (n:=fuel) (cs:=[.slice a len cap]) b
 simp only [List.cons.injEq,and_true] at e
 subst e
 exact ⟨l,hl⟩
end
end Go.Proofs.YtgkhcfjooiekkaaGreatDoor
namespace Go.Proofs.YtgkhcfjooiekkaaGreatDoor
open Go.ChangeShapes Go.WideShapes Go.ChangeAt Go.RowKit Go.Sw
set_option maxRecDepth 100000
theorem j8n:Tryz.pinned.checked.prog.mainIs=some (true,"455426ae17f5cebd1e869bbd2c7c15e1646e82f384eadf6ce8080b103650fe81".toList):=by kernel_rfl
theorem j0g:true=Tryz.prog.looks []:=by kernel_rfl
theorem tB (W:World):laidMetH Tryz.prog laidAll W=laidMet Tryz.prog laidAll W:=MakeChecks.laidMetH_plain _ _ _ (by kernel_rfl)
theorem j0b (os:Os) (args:Array Value):laidMet Tryz.prog laidAll ((World.laidAll Tryz.prog os laidAll).forCall (fun _ _=>0) ⟨#[],args,[]⟩).memory:=laidMet_laidAll _ (by kernel_rfl) (by kernel_rfl)
theorem j8y {l:List TypeId} (h:(l.all fun t=>Tryz.prog.readableRec t&&decide (t < Tryz.prog.types.size))=true) {t:TypeId} (a:t∈l):Tryz.prog.readableRec t=true/\t < Tryz.prog.types.size:=by
 have:=List.all_eq_true.1 h t a
 simpa using this
section
variable {H:Type} {enc:TypeId×Value->H}
theorem c58:Tryz.prog.cellsOf 58=2:=by kernel_rfl
theorem c40:Tryz.prog.cellsOf 40=3:=by kernel_rfl
theorem j3d {W:World} {base:Nat} {v:Value} {d:DataW H} {p:List MemPlace} (o:Value.okWide Tryz.prog W .any base 40 v) (h:DataW.Trod enc Tryz.prog W 0 (fun _=>true) true 40 v d p) :
  ∃nm va args fu,v=.agg #[.string nm,va,.int .i64 fu]/\SliceOf RVal (Fz.whole W) 3 va args:=by
 obtain ⟨cs,rfl⟩:=agg_of Tryz.underlying40 o
 obtain ⟨fuel,a⟩:=h
 obtain ⟨m,rfl,hl,a⟩:=nA (enc:=enc) (W:=W) (cs:=cs) Tryz.underlying40 a
 rw [c40] at hl
 obtain ⟨a0,r,rfl,b⟩:=qN hl
 obtain ⟨q,r,rfl,c⟩:=qN b
 obtain ⟨a2,r,rfl,e⟩:=qN c
 obtain rfl:=List.eq_nil_of_length_eq_zero e
 obtain ⟨_,j⟩:=a 0 9 0 rfl
 obtain ⟨_,k⟩:=a 1 38 1 rfl
 obtain ⟨_,n⟩:=a 2 3 2 rfl
 simp only [c3,c9,c38,List.drop_succ_cons,List.drop_zero,List.take_succ_cons,List.take_zero] at j k n
 obtain ⟨s,f⟩:=pX j
 obtain ⟨v,l,g,h1⟩:=j1y k
 obtain ⟨i,e2,_⟩:=z6s n
 simp only [List.cons.injEq,and_true] at f g e2
 subst f g e2
 exact ⟨s,_,l,i,rfl,h1⟩
end
end Go.Proofs.YtgkhcfjooiekkaaGreatDoor
namespace Go.Sw
open Go.Proofs Go.Proofs.Tryz
set_option maxRecDepth 20000
set_option maxHeartbeats 4000000
theorem fo_40_0:zR prog 40 0 0:=zI runUnderlying40 rfl sizeOf9 (by decide) rfl
theorem fo_40_1:zR prog 40 1 1:=zI runUnderlying40 rfl sizeOf38 (by decide) rfl
theorem fo_40_2:zR prog 40 2 2:=zI runUnderlying40 rfl sizeOf3 (by decide) rfl
theorem fo_46_0:zR prog 46 0 0:=zI runUnderlying46 rfl sizeOf42 (by decide) rfl
theorem fo_46_1:zR prog 46 1 3:=zI runUnderlying46 rfl sizeOf3 (by decide) rfl
theorem x5s:zR prog 113 0 0:=zI runUnderlying113 rfl sizeOf27 (by decide) rfl
theorem x5t:zR prog 113 1 4:=zI runUnderlying113 rfl sizeOf28 (by decide) rfl
theorem y4g:zR prog 208 0 0:=zI runUnderlying208 rfl sizeOf25 (by decide) rfl
theorem x6j:zR prog 208 1 1:=zI runUnderlying208 rfl sizeOf3 (by decide) rfl
set_option maxRecDepth 20000 in
theorem z4s:RowT prog 23 72 2 32:=⟨underlying23,⟨_,_,Tryz.type72,rfl,rfl,rfl,rfl⟩,by decide,by decide⟩
set_option maxRecDepth 20000 in
theorem rt_24:RowT prog 24 68 8 136:=⟨underlying24,⟨_,_,Tryz.type68,rfl,rfl,rfl,rfl⟩,by decide,by decide⟩
set_option maxRecDepth 20000 in
theorem rt_63:RowT prog 63 66 5 80:=⟨underlying63,⟨_,_,Tryz.type66,rfl,rfl,rfl,rfl⟩,by decide,by decide⟩
set_option maxRecDepth 20000 in
theorem rt_64:RowT prog 64 195 7 120:=⟨underlying64,⟨_,_,Tryz.type195,rfl,rfl,rfl,rfl⟩,by decide,by decide⟩
set_option maxRecDepth 20000 in
theorem rt_131:RowT prog 131 135 2 40:=⟨underlying131,⟨_,_,Tryz.type135,rfl,rfl,rfl,rfl⟩,by decide,by decide⟩
end Go.Sw
