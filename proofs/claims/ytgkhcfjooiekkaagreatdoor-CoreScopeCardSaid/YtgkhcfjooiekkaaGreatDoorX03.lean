import Derived.RangeFuncRecord
import Derived.RangeFuncSeq
import Derived.RangeFuncLeaves
import Derived.RangeFuncCalls
import Derived.OwnWalkIn
import Derived.Recover
import Derived.Test.YtgkhcfjooiekkaaGreatDoorProg
import Derived.ChangeArms
import Derived.OpenShut
import Derived.Deep.Slices
import Derived.Test.YtgkhcfjooiekkaaGreatDoorCards
import Derived.Test.YtgkhcfjooiekkaaGreatDoorTie
import Derived.PinnedBridge
import Derived.Lay
import Derived.LaidOnce
import Derived.SevenTiedAt
import Derived.HandedShaped
import Derived.Carry
import Derived.ProofKit
import Derived.Shelf.Vars
import Derived.Stop.LaidErr
import Derived.Lib.LaidTab
import Derived.JoinedOf
import Derived.Test.YtgkhcfjooiekkaaGreatDoorX00
import Derived.Test.YtgkhcfjooiekkaaGreatDoorX01
import Derived.Test.YtgkhcfjooiekkaaGreatDoorX02
set_option linter.unusedVariables false
set_option linter.unusedSimpArgs false
namespace Go.Sw
def FO:Option Nat→Fence
 | none=>Fence.wide
 | some l=>Fence.wide.inRound l
section
variable {P:Program} {n m:Nat} {E:List (Nat×Value)} {D:List Deferred} {a:Act} {w:World} {ops:Array Oper} {rest:List Oper} {Q:Exit→Act→World→Prop} {r:Option Nat} {d:Nat} {v:Value} {op:Op} {ty:TypeId} {pos:String} {aft:Array Edge}
theorem FO.calls {f:FuncId} {args:Array Value} {R:Ending→World→Prop} (h:Calls P f args w R):CallsIn (FO r) m P f args w R:=by
 have:=(callsIn_wide (n:=m)).2 h
 cases r with
 | none=>exact this
 | some l=>exact CallsIn.inRound l this
theorem FO.fn (f:FuncId):(FO r).fn f:=by cases r <;> trivial
theorem FO.depth:(FO r).depth.isSome=true→False:=by cases r <;> (intro h;cases h)
theorem wpIn_of_eff {o:Oper} {K:Act→World→Prop} (hop:∀c,o.op≠.defer c)
  (h:Oper.eff P o a w (fun v w'=>K (a.put o.dst v) w') (fun c w'=>Q (.panic c) a w')):o.wpIn (FO r) m P a w K Q:=by
 refine ⟨fun f _=>FO.fn f,?_⟩
 rw [Oper.semAt_plain _ _ _ hop]
 unfold Oper.eff at h
 generalize (execOp a.eval o).run P w=q at *
 cases q with
 | ok x w' =>
  cases x <;> simp only [z6a] at h <;> simp only [Oper.uponIn]
  case value=>exact h
  case skip=>exact h
  case enter f args=>exact ⟨fun hd=>(FO.depth hd).elim,FO.calls (h.mono fun e w'' he=>by cases e <;> first | exact he | exact he.elim)⟩
 | halt x w'=>cases x <;> simp only [z6a] at h;simp only [Oper.uponIn];exact h
theorem in_st {o:Oper} (he:EnvR n E D a) (hd:o.dst=some d) (hlt:Nat.blt d n=true) (hg:o.guard=none) (hop:∀c,o.op≠.defer c)
  (h:Oper.eff P o a w (fun v w'=>∀a,EnvR n ((d,v)::E) D a→wpListIn (FO r) m P ops Q rest a w') (fun _ _=>False)):wpListIn (FO r) m P ops Q (o::rest) a w:=by
 refine wpListIn_plain hg fun L hL=>wpIn_of_eff hop (z1b h (fun v w' hv=>hL _ _ ?_) (fun c w' hc=>hc.elim))
 rw [hd];exact hv _ (he.put hlt)
theorem in_st0 {o:Oper} (he:EnvR n E D a) (hd:o.dst=none) (hg:o.guard=none) (hop:∀c,o.op≠.defer c)
  (h:Oper.eff P o a w (fun _ w'=>∀a,EnvR n E D a→wpListIn (FO r) m P ops Q rest a w') (fun _ _=>False)):wpListIn (FO r) m P ops Q (o::rest) a w:=by
 refine wpListIn_plain hg fun L hL=>wpIn_of_eff hop (z1b h (fun v w' hv=>hL _ _ ?_) (fun c w' hc=>hc.elim))
 rw [hd];exact hv _ he.put_none
theorem z9j (he:EnvR n E D a) (hop:∀c,op≠.defer c) (ho:Ok P a op ty w v) (hd:Nat.blt d n=true) (k:∀a,EnvR n ((d,v)::E) D a→wpListIn (FO r) m P ops Q rest a w) :
  wpListIn (FO r) m P ops Q (⟨some d,op,ty,pos,aft,none⟩::rest) a w :=
 in_st he rfl hd rfl hop (z6w ho k)
theorem wp_region_in {id:Nat} {l:List Oper} (h:wpListIn (FO none) 3 P l.toArray Q l a w):(Code.region id l.toArray false).wp P Q a w:=wpIn_wide.1 (wpIn_region_lit h)
theorem in_yield {y x:Operand} {ts:Array TypeId} {l:Nat} {J:World→Prop} (he:EnvR n E D a) (hlt:Nat.blt d n=true) (hy:ev E y=some (.func (.yield l) #[] #[])) (hx:ev E x=some v)
  (hr:YieldAt Fence.wide 2 P l #[v] w (fun e w'=>e=.returned (.bool true)∧J w')) (k:∀w',J w'→∀a,EnvR n ((d,.bool true)::E) D a→wpListIn (FO none) 3 P ops Q rest a w') :
  wpListIn (FO none) 3 P ops Q (⟨some d,.call { callee:=.value y,args:=#[x],argTypes:=ts },ty,pos,aft,none⟩::rest) a w:=by
 obtain ⟨fn,tmps,assign,body,h1,h2⟩:=hr
 refine wpListIn_plain rfl fun L hL=>⟨fun f _=>trivial,?_⟩
 rw [Oper.semAt_plain _ _ _ (by intro c h;cases h)]
 have h3:(execOp a.eval ⟨some d,.call { callee:=.value y,args:=#[x],argTypes:=ts },ty,pos,aft,none⟩).run P w=.ok (.round l fn tmps assign body) w:=by
  simp only [execOp,resolve,Sem.run_bind,List.map_toArray,List.map_cons,List.map_nil,he.ev hx,he.ev hy,Deferred.ofValue]
  simp [invoke,Sem.run_bind,Result.andThen,h1]
 rw [h3,Oper.uponIn_round]
 refine ⟨fun hd=>(by cases hd),h2.mono fun e w' he' =>?_⟩
 obtain ⟨rfl,hJ⟩:=he'
 exact hL _ _ (k _ hJ _ (he.put hlt))
end
section
variable {P:Program} {Φ Ψ:Fz} {K:List Res} {w:World}
theorem Mem.putObj {i l:Nat} {o o':Obj} (hm:Mem Φ K w) (hk:kget K i=some (.blk l o)):Mem Φ (kset K i (.blk l o')) (w.putObj l o'):=by
 have hb:l < w.heap.size:=(Array.getElem?_eq_some_iff.1 (hm.own _ (z1a hk))).1
 exact hm.upd hk rfl rfl (fun c hc hne=>World.putObj_heap_other (fun e=>hne (by simp [Res.foot,e]))) (World.putObj_heap_same hb) (.inl rfl)
theorem round_of {β γ:Type} {l n:Nat} {r:Loop} {tmps:Array Value} {E:List (Nat×Value)} {E1:β→List (Nat×Value)} {K1:β→List Res} {KO:γ→List Res} (hm:Mem Φ (.blk l (.loop r)::K) w) (hst:r.state=.ready) (hpd:r.pending=none)
  (he:EnvR n E [] ⟨tmps,[]⟩)
  (hA:∀a,EnvR n E [] a→r.assign.wpIn (FO (some l)) 2 P (Exit.then (fun a1 w1=>∃y,EnvR n (E1 y) [] a1∧Mem Φ (.blk l (.loop r)::K1 y) w1) (fun _ _ _=>False)) a w)
  (hB:∀y a w,EnvR n (E1 y) [] a→Mem Φ (.blk l (.loop { r with state:=.busy })::K1 y) w→r.body.wpIn (FO (some l)) 2 P (fun e _ w=>e=.normal∧∃z,Mem Φ (.blk l (.loop { r with state:=.busy })::KO z) w) a w) :
  RoundIn Fence.wide 2 P l r.fn tmps r.assign r.body w (fun e w'=>e=.returned (.bool true)∧∃z,Mem Φ (.blk l (.loop r)::KO z) w'):=by
 refine roundIn_of_wpIn trivial (Code.wpIn_mono (fun e a1 w1 h =>?_) (hA _ he))
 cases e with
 | normal =>
  obtain ⟨y,h1,h2⟩:=h
  have hl:w1.heap[l]? = some (.loop r):=h2.own _ List.mem_cons_self
  refine ⟨_,run_beginRound hl hst,?_⟩
  have h3:=h2.putObj (i:=0) (o':=.loop { r with state:=.busy }) rfl
  refine Code.wpIn_mono (fun e a2 w2 h =>?_) (hB y _ _ h1 h3)
  obtain ⟨rfl,z,h4⟩:=h
  have hl2:w2.heap[l]? = some (.loop { r with state:=.busy }):=h4.own _ List.mem_cons_self
  refine ⟨_,_,run_endRound none hl2,rfl,z,?_⟩
  have h5:=h4.putObj (i:=0) (o':=.loop { ({ r with state:=.busy }:Loop) with state:=.ready,pending:=none }) rfl
  have h6:({ ({ r with state:=.busy }:Loop) with state:=.ready,pending:=none }:Loop)=r:=by cases r;simp only at hst hpd;subst hst;subst hpd;rfl
  simp only [kset,h6] at h5;simpa [h6] using h5
 | exit id=>exact h.elim
 | goto l=>exact h.elim
 | ret=>exact h.elim
 | panic c=>exact h.elim
 | outgrown=>exact h.elim
theorem wp_range {β δ:Type} {n gf:Nat} {E:List (Nat×Value)} {Dd:List Deferred} {a:Act} {g:Operand} {ps:Array Tmp} {assign body:Code} {Q:Exit→Act→World→Prop} {fs cs:List Value} {F1:β→Fz} {KO:β→List Res} {KE:δ→List Res} {G:β→Prop} {B:δ→List PanicEntry→Prop}
  (he:EnvR n E Dd a) (hm:Mem Φ K w) (hg:ev E g=some (.func (.func gf) fs.toArray cs.toArray)) (hf:∀args w,(callFunc gf args).run P w=.ok (.enter gf args) w)
  (hc:∀Dk l r w,r.params=ps→r.assign=assign→r.body=body→r.state=.ready→r.pending=none→EnvR n E [] ⟨r.tmps,[]⟩→Mem Φ (.blk l (.loop r)::.blk Dk (.deferred (some []))::K) w →
   Calls P gf (fs++[Value.func (.yield l) #[] #[]]++cs).toArray w (fun e w'=>(∃v y,e=.returned v∧G y∧Mem (F1 y) (.blk l (.loop r)::.blk Dk (.deferred (some []))::KO y) w')∨(∃c z,e=.panicked c∧B z c∧Mem Φ (.blk Dk (.deferred (some []))::KE z) w')))
  (kn:∀Dk y a w,G y→EnvR n E ({ target:=.collected Dk,args:=#[] }::Dd) a→Mem (F1 y) (.blk Dk (.deferred (some []))::KO y) w→Q .normal a w)
  (kp:∀Dk z c a w,B z c→EnvR n E ({ target:=.collected Dk,args:=#[] }::Dd) a→Mem Φ (.blk Dk (.deferred (some []))::KE z) w→Q (.panic c) a w):(Code.rangeFunc g ps assign body).wp P Q a w:=by
 refine (wpIn_wide (n:=3)).1 (wpIn_rangeFunc fun fn _ =>?_)
 generalize hw1:((w.alloc (.deferred (some []))).alloc (.loop { state:=.ready,pending:=none,fn,tmps:=a.tmps,params:=ps,assign,body,defers:=w.heap.size }))=w1
 have hm1:Mem Φ (.blk (w.heap.size+1) (.loop { state:=.ready,pending:=none,fn,tmps:=a.tmps,params:=ps,assign,body,defers:=w.heap.size })::.blk w.heap.size (.deferred (some []))::K) w1:=by
  have h1:=hm.push (.deferred (some []))
  have h2:=h1.push (.loop { state:=.ready,pending:=none,fn,tmps:=a.tmps,params:=ps,assign,body,defers:=w.heap.size })
  have h3:({ w with heap:=w.heap.push (.deferred (some [])) }:World).heap.size=w.heap.size+1:=Array.size_push _
  rw [h3] at h2
  rw [← hw1];exact h2
 have hE:EnvR n E ({ target:=.collected w.heap.size,args:=#[] }::Dd) { a with defers:=[{ target:=.collected w.heap.size,args:=#[] }]++a.defers }:=⟨he.size,he.env,by simp [he.defs]⟩
 have hcall:=hc w.heap.size (w.heap.size+1) { state:=.ready,pending:=none,fn,tmps:=a.tmps,params:=ps,assign,body,defers:=w.heap.size } w1 rfl rfl rfl rfl rfl ⟨he.size,he.env,rfl⟩ hm1
 refine ⟨w.heap.size+1,[{ target:=.collected w.heap.size,args:=#[] }],w1,{ target:=.fn (.func gf) cs.toArray,args:=(fs++[Value.func (.yield (w.heap.size+1)) #[] #[]]).toArray },w1,gf,(fs++[Value.func (.yield (w.heap.size+1)) #[] #[]]++cs).toArray,w1,?_,?_,fun f' _=>trivial,?_,fun hd=>(by cases hd),?_⟩
 ·rw [show Fence.wide.round=none from rfl,run_enterLoop_outer,hw1]
 ·have h1:=he.ev hg
  have h2:a.eval (.const (.func (.yield (w.heap.size+1)) #[] #[]))=.func (.yield (w.heap.size+1)) #[] #[]:=rfl
  simp only [resolve,Sem.run_bind,h1,h2,List.map_toArray,List.map_cons,List.map_nil]
  simp [Deferred.ofValue]
 ·have:=hf (fs++[Value.func (.yield (w.heap.size+1)) #[] #[]]++cs).toArray w1
  simp only [invoke]
  simpa using this
 ·refine callsIn_wide.2 (hcall.mono fun e w3 h =>?_)
  rcases h with ⟨v,y,rfl,hG,hm3⟩ | ⟨c,z,rfl,hB,hm3⟩
  ·have hl:w3.heap[w.heap.size+1]? = _:=hm3.own _ List.mem_cons_self
   refine ⟨_,_,run_endLoop hl (by intro h;cases h),?_⟩
   exact kn _ y _ _ hG hE (hm3.putObj (i:=0) rfl).tail
  ·exact kp _ z c _ _ hB hE hm3
def y0i (P:Program) (fn:Func) (tmps:Array Value) (R:Ending→World→Prop) (ds:List Deferred) (u:FrameMode) (w:World):Prop :=
 ∀(fr:Frame) (cs:List Frame),fr.mode=u→fr.defers=ds→fr.tmps=tmps→P.funcs[fr.fn]? = some fn→fr.kind=.normal →
  ∃e w' fr',R e w'∧Comes P (lone fr cs w) (lone fr' cs w') e∧fr'.fn=fr.fn∧fr'.leaving P w' e
theorem leavesX_of {fn:Func} {tmps:Array Value} {R:Ending→World→Prop} {ds:List Deferred} {u:FrameMode} (h:Leaves P fn tmps R ds u w):y0i P fn tmps R ds u w :=
 fun fr cs h1 h2 h3 h4 h5=>leaves_steps ds u w fr cs h1 h2 h3 h4 h5 h
theorem z9c {fn:Func} {tmps:Array Value} {R:Ending→World→Prop} {Dk:Nat} {ds:List Deferred} {u:FrameMode} (hu:u≠.run) (hw:w.heap[Dk]? = some (.deferred (some [])))
  (h:y0i P fn tmps R ds u (w.putObj Dk (.deferred none))):y0i P fn tmps R ({ target:=.collected Dk,args:=#[] }::ds) u w:=by
 intro fr cs h1 h2 h3 h4 h5
 have hs:=step_collected (P:=P) (cs:=cs) (h1▸hu) h2 rfl (run_takeDeferred hw)
 obtain ⟨e,w',fr',hR,hc,hfn,hl⟩:=h { fr with defers:=[]++ds } cs h1 rfl h3 h4 h5
 exact ⟨e,w',fr',hR,Comes.of_steps (.one hs) hc,hfn,hl⟩
def bodyPostX (P:Program) (fn:Func) (R:Ending→World→Prop):Exit→Act→World→Prop
 | .normal,a,w | .ret,a,w=>y0i P fn a.tmps R a.defers .returning w
 | .panic chain,a,w=>y0i P fn a.tmps R a.defers (.panicking chain) w
 | .outgrown,_,w=>R .outgrown w
 | _,_,_=>False
theorem calls_of_wp_x {f:FuncId} {fn:Func} {c:Code} {args:Array Value} {w:World} {R:Ending→World→Prop}
  (hf:P.funcs[f]? = some fn) (hb:fn.body=some c)
  (h:c.wp P (bodyPostX P fn R) { tmps:=args++Array.replicate (fn.ntmps - args.size) undef,defers:=[] } w):Calls P f args w R:=by
 intro cs
 let b:Frame:={ (default:Frame) with fn:=f,kind:=.normal }
 have henter:Frame.enter P f args .normal =
   b.at { tmps:=args++Array.replicate (fn.ntmps - args.size) undef,defers:=[] } [.code c]:=by
  simp [Frame.enter,Frame.at,hf,hb,b]
 obtain ⟨e,a',w',hq,harr⟩:=h b [] cs
 rw [← henter] at harr
 cases e with
 | normal =>
  obtain ⟨e',w'',fr',hR,hs,hfn,hl⟩:=hq { b.at a' [] with mode:=.returning } cs rfl rfl rfl hf rfl
  exact ⟨e',w'',fr',hR,Comes.of_steps (Steps.trans harr (.one step_end)) hs,hfn,hl⟩
 | ret =>
  obtain ⟨todo,hs₀⟩:=harr
  obtain ⟨e',w'',fr',hR,hs,hfn,hl⟩:=hq { b.at a' todo with mode:=.returning } cs rfl rfl rfl hf rfl
  exact ⟨e',w'',fr',hR,Comes.of_steps hs₀ hs,hfn,hl⟩
 | panic chain =>
  obtain ⟨todo,hs₀⟩:=harr
  obtain ⟨e',w'',fr',hR,hs,hfn,hl⟩:=hq { b.at a' todo with mode:=.panicking chain } cs rfl rfl rfl hf rfl
  exact ⟨e',w'',fr',hR,Comes.of_steps hs₀ hs,hfn,hl⟩
 | exit id=>exact hq.elim
 | goto l=>exact hq.elim
 | outgrown=>exact ⟨.outgrown,w',b,hq,harr.resolve_left (by simp [b]),rfl,trivial⟩
theorem enterX {n:Nat} {f:FuncId} {fn:Func} {c:Code} {vs:List Value} {R:Ending→World→Prop} (hf:P.funcs[f]? = some fn) (hb:fn.body=some c) (hn:fn.ntmps=n) (hl:Nat.ble vs.length n=true)
  (k:∀Q:Exit→Act→World→Prop,(∀e a w,bodyPostX P fn R e a w→Q e a w)→∀a,EnvR n (y0j 0 vs) [] a→c.wp P Q a w):Calls P f vs.toArray w R:=by
 have hl':vs.length≤n:=by simpa using hl
 refine calls_of_wp_x hf hb (k _ (fun _ _ _ h=>h) _ ⟨by simp [hn];omega,fun t v ht =>?_,rfl⟩)
 obtain ⟨_,h2⟩:=z8a vs 0 t v ht
 simp only [Nat.sub_zero] at h2
 have hlt:t < vs.length:=(List.getElem?_eq_some_iff.1 h2).1
 simp only [List.getElem?_toArray,Array.getElem?_append,List.size_toArray,hlt,↓reduceIte]
 exact h2
end
theorem ret0N {P:Program} {n:Nat} {E:List (Nat×Value)} {a:Act} {w:World} {fn:Func} {R:Ending→World→Prop} (he:EnvR n E [] a) (hr:fn.results=#[]) (h:R (.returned (.tuple #[])) w):bodyPost P fn R .normal a w :=
 ⟨he.defs,.tuple #[],by simp [results,hr],h⟩
section
variable {P:Program} {n:Nat} {E:List (Nat×Value)} {D:List Deferred} {a:Act} {w:World} {ops:Array Oper} {rest:List Oper} {Q:Exit→Act→World→Prop} {ty:TypeId} {pos:String} {aft:Array Edge}
theorem st_defer_fn {y:Operand} {fv:Fn} {fs cs vs:List Value} {xs:Array Operand} {ts:Array TypeId} (he:EnvR n E D a) (hy:ev E y=some (.func fv fs.toArray cs.toArray)) (hx:evs E xs.toList=some vs)
  (k:∀a,EnvR n E ({ target:=.fn fv cs.toArray,args:=(fs++vs).toArray }::D) a→wpList P ops Q rest a w) :
  wpList P ops Q (⟨none,.defer { callee:=.value y,args:=xs,argTypes:=ts },ty,pos,aft,none⟩::rest) a w:=by
 refine wpList_plain rfl fun L hL =>?_
 unfold Oper.wp
 simp only [execOp,resolve,he.evsA hx,he.ev hy,Deferred.ofValue]
 refine hL _ _ (k _ ⟨he.size,he.env,?_⟩)
 simp [Act.put,he.defs]
end
section
variable {P:Program} {n:Nat} {E:List (Nat×Value)} {D:List Deferred} {a:Act} {w:World} {ty:TypeId}
theorem y_assert {x:Operand} {t t0:TypeId} {d:TypeDesc} {v:Value} (he:EnvR n E D a) (hx:ev E x=some (.iface t v)) (hu:Under P t d) (hd:∀ms,d≠.interface ms) :
  Ok P a (.typeAssert x t0 t true) ty w (.tuple (List.toArray [v,.bool true])):=fun _ _ _ _=>by
 simp only [execOp,he.ev hx,Instr.typeAssert]
 simp only [Sem.run_bind,hu _,Result.andThen,if_true]
 cases d <;> first | (exact absurd rfl (hd _)) | simp [Sem.run_bind,Result.andThen]
end
section
variable {P:Program} {n:Nat} {E:List (Nat×Value)} {D:List Deferred} {a:Act} {w:World} {d:Nat} {ops:Array Oper} {rest:List Oper} {Q:Exit→Act→World→Prop}
theorem stP {o:Oper} (he:EnvR n E D a) (hd:o.dst=some d) (hlt:Nat.blt d n=true) (hg:o.guard=none)
  (h:Oper.eff P o a w (fun v w'=>∀a,EnvR n ((d,v)::E) D a→wpList P ops Q rest a w') (fun c w'=>∀a,EnvR n E D a→Q (.panic c) a w')):wpList P ops Q (o::rest) a w:=by
 refine wpList_plain hg fun L hL=>z8r (z1b h (fun v w' hv=>hL _ _ ?_) (fun c w' hc=>hc _ he))
 rw [hd];exact hv _ (he.put hlt)
end
theorem results_cell {P:Program} {fn:Func} {n:Nat} {E:List (Nat×Value)} {D:List Deferred} {a:Act} {Φ:Fz} {K:List Res} {w:World} {t T b i:Nat} {cs:List Value} {T0:TypeId} {v:Value} (he:EnvR n E D a) (hm:Sees Φ K w) (hr:fn.results=#[.cell t T]) (hv:get E t=some (.pointer (some ⟨b,0,none⟩)))
  (hk:kget K i=some (.blk b (ob cs T0))) (hc:nth cs 0=some v) (hT:Scalar P T):(results fn a.tmps).run P w=.ok v w:=by
 have h1:=hm.cell hk 0
 rw [hc] at h1
 simp [results,hr,Array.getD_eq_getD_getElem?,he.env t _ hv,asAddr,loadVar,Sem.run_bind,hT w,Result.andThen,load,Sem.run,h1]
section
variable {P:Program} {n:Nat} {E:List (Nat×Value)} {D:List Deferred} {a:Act} {Φ:Fz} {K:List Res} {w:World}
theorem cellA {t T b k i:Nat} {cs:List Value} {T0:TypeId} (he:EnvR n E D a) (hm:Sees Φ K w) (hv:get E t=some (.pointer (some ⟨b,0,none⟩)))
  (hk:kget K i=some (.blk b (ob cs T0))) (hT:AggT P T) (hS:SizeT P T k) (hl:cs.length=k):(loadVar T ⟨b,0,none⟩).run P w=.ok (.agg cs.toArray) w:=by
 have hc:∀j v,cs[j]? = some v→w.cell? ((⟨b,0,none⟩:Addr).add j)=some v:=fun j v hj=>by
  have h1:=hm.cell hk j
  rw [nth_eq,hj] at h1
  unfold Addr.add;split
  ·subst_vars;exact h1
  ·simpa using h1
 have h2:=run_loadCells_list (P:=P) (w:=w) ⟨b,0,none⟩ cs hc
 rw [hl] at h2
 simp [loadVar,Sem.run_bind,hT w,hS w,h2,Result.andThen]
end
section
variable {P:Program} {n:Nat} {E:List (Nat×Value)} {D:List Deferred} {a:Act} {Φ Ψ:Fz} {K:List Res} {w:World}
theorem Mem.freezeMap {b i:Nat} {m:List (Bs×Value)} (hm:Mem Φ K w) (hk:kget K i=some (.mp b m)):∃Ψ,Φ.Le Ψ∧Mem Ψ (kdel K i) w∧MapAt Ψ b m:=by
 have h:=hm.pull hk
 obtain ⟨es,clock,ho,hok⟩:=hm.own _ (z1a hk)
 exact ⟨_,Fz.le_add (h.no rfl) _,h.freezeHead (b:=b) rfl ho,es,clock,by simp [Fz.add],hok⟩
theorem results3 {fn:Func} {t u x T U k i j b c:Nat} {v y:Value} {cs:List Value} {T0 T1:TypeId} (he:EnvR n E D a) (hm:Sees Φ K w) (hr:fn.results=#[.tmp x,.cell t T,.cell u U]) (hx:get E x=some y) (hv:get E t=some (.pointer (some ⟨b,0,none⟩)))
  (hk:kget K i=some (.blk b (ob [v] T0))) (hT:Scalar P T) (hu:get E u=some (.pointer (some ⟨c,0,none⟩))) (hk2:kget K j=some (.blk c (ob cs T1))) (hT2:AggT P U) (hS:SizeT P U k) (hl:cs.length=k) :
  (results fn a.tmps).run P w=.ok (.tuple (List.toArray [y,v,.agg cs.toArray])) w:=by
 have h1:w.cell? ⟨b,0,none⟩=some v:=hm.cell hk 0
 have h2:=cellA (P:=P) he hm hu hk2 hT2 hS hl
 have h3:(loadVar T ⟨b,0,none⟩).run P w=.ok v w:=by simp [loadVar,Sem.run_bind,hT w,Result.andThen,load,Sem.run,h1]
 simp [results,hr,Array.getD_eq_getD_getElem?,he.env t _ hv,he.env u _ hu,he.env x _ hx,asAddr,h2,h3,Sem.run_bind,Result.andThen]
end
theorem eff_callU {P:Program} {n:Nat} {E:List (Nat×Value)} {D:List Deferred} {a:Act} {w:World} {Kn:Value→World→Prop} {Qp:List PanicEntry→World→Prop} {dst:Option Tmp} {ty:TypeId} {pos:String} {aft:Array Edge} {g:Option (Nat×Bool)}
  {α β ε δ:Type} {f:FuncId} {xs:Array Operand} {ts:Array TypeId} {vs:List Value} {r:Except ε α} {X:α→β→Value} {Z:ε→δ→Value} {Φ1 Φ2:Fz} {KO:α→β→List Res} {KE:ε→δ→List Res}
  (he:EnvR n E D a) (hx:evs E xs.toList=some vs) (hf:∀args w,(callFunc f args).run P w=.ok (.enter f args) w)
  (hc:Calls P f vs.toArray w (fun e w'=>Out r (fun x=>∃y,e=.returned (X x y)∧Mem Φ1 (KO x y) w') (fun c=>∃y,e=.returned (Z c y)∧Mem Φ2 (KE c y) w')))
  (k:∀x y w',r=.ok x→Mem Φ1 (KO x y) w'→Kn (X x y) w') (kp:∀c y w',r=.error c→Mem Φ2 (KE c y) w'→Kn (Z c y) w') :
  Oper.eff P ⟨dst,.call { callee:=.value (.func f),args:=xs,argTypes:=ts },ty,pos,aft,g⟩ a w Kn Qp:=by
 refine z7l he hx hf hc (fun v w' h =>?_) (fun c w' h =>?_) (fun w' h =>?_)
 ·cases r with
  | ok x=>obtain ⟨y,h1,h2⟩:=h;cases h1;exact k _ _ _ rfl h2
  | error c=>obtain ⟨y,h1,h2⟩:=h;cases h1;exact kp _ _ _ rfl h2
 ·cases r with
  | ok x=>obtain ⟨y,h1,_⟩:=h;cases h1
  | error c=>obtain ⟨y,h1,_⟩:=h;cases h1
 ·cases r with
  | ok x=>obtain ⟨y,h1,_⟩:=h;cases h1
  | error c=>obtain ⟨y,h1,_⟩:=h;cases h1
end Go.Sw

namespace Go.Sw
open Go.Proofs.Tryz
open Go.Proofs
theorem enterD {P:Program} {n:Nat} {w:World} {f:FuncId} {fn:Func} {c:Code} {vs:List Value} {R:Ending→World→Prop} (hf:P.funcs[f]? = some fn) (hb:fn.body=some c) (hn:fn.ntmps=n) (hl:Nat.ble vs.length n=true)
  (k:∀Q:Exit→Act→World→Prop,(∀e a w,bodyPostD P fn R e a w→Q e a w)→∀a,EnvR n (y0j 0 vs) [] a→c.wp P Q a w):Calls P f vs.toArray w R:=by
 have hl':vs.length≤n:=by simpa using hl
 refine calls_of_wp_defers hf hb (k _ (fun _ _ _ h=>h) _ ⟨by simp [hn];omega,fun t v ht =>?_,rfl⟩)
 obtain ⟨_,h2⟩:=z8a vs 0 t v ht
 simp only [Nat.sub_zero] at h2
 have hlt:t < vs.length:=(List.getElem?_eq_some_iff.1 h2).1
 simp only [List.getElem?_toArray,Array.getElem?_append,List.size_toArray,hlt,↓reduceIte]
 exact h2
abbrev spentV:Value:=.iface 177 (.agg (List.toArray []))
set_option maxRecDepth 20000 in
set_option maxHeartbeats 4000000 in
theorem catch_spent {Φ:Fz} {K:List Res} {w:World} {b:Nat} (hm:Mem Φ (.blk b (ob [.int .i64 ((0:Nat):Int)] 31)::K) w) :
  CallsD Tryz.prog 102 #[.pointer (some ⟨b,0,none⟩)] (.panicking (spentC ())) w fun e u' w' =>
   e=.returned (.tuple #[])∧u'=.panicking [{ v:=spentV,recovered:=true }]∧Mem Φ (.blk b (ob [.int .i64 ((4:Nat):Int)] 31)::K) w':=by
 generalize hR:(fun (e:Ending) (u':FrameMode) (w':World)=>e=.returned (.tuple #[])∧u'=.panicking [{ v:=spentV,recovered:=true }]∧Mem Φ (.blk b (ob [.int .i64 ((4:Nat):Int)] 31)::K) w')=R
 refine callsD_of_wpS func102 rfl fun c₀ cs hu =>?_
 apply wpS_seq
 apply wpS_region
 show wpOpsS Tryz.prog _ _ [0,1] _ _ _
 simp [wpOpsS,go_sem,recoverD,hu,ntmps102,Exit.thenS,spentC]
 refine wpS_of_wp ?_
 generalize hc:(_::cs:List Frame)=cs'
 have hQ:∀(a:Act) (w':World),a.defers=[]→Mem Φ (.blk b (ob [.int .i64 ((4:Nat):Int)] 31)::K) w'→bodyPostS Tryz.prog Tryz.f102 c₀ cs R .normal a cs' w':=fun a w' hd hm =>
  ⟨hd,.panicking [{ v:=spentV,recovered:=true }],hc.symm,.tuple #[],results_none rfl _ _ _,by subst hR;exact ⟨rfl,rfl,hm⟩⟩
 generalize hact:(Act.mk _ [])=a
 have he:EnvR 15 [(1,spentV),(0,.pointer (some ⟨b,0,none⟩))] [] a:=by
  subst hact
  refine ⟨rfl,fun t v h =>?_,rfl⟩
  obtain ⟨rfl,rfl⟩ | ⟨_,h⟩:=z5f h
  ·rfl
  ·obtain ⟨rfl,rfl⟩ | ⟨_,h⟩:=z5f h
   ·rfl
   ·cases h
 clear hact
 refine sq fun L1 hL1 =>?_
 refine wp_region_lit ?_
 refine z3k he (z4g he rfl) rfl fun a he =>?_
 refine z3k he (y0z (v:=.bool true) he rfl rfl rfl (by kernel_rfl)) rfl fun a he =>?_
 refine wpList_nil ?_
 refine hL1 _ _ ?_
 refine if_t he rfl ?_
 refine sq fun L2 hL2 =>?_
 refine sq fun L3 hL3 =>?_
 refine wp_region_lit ?_
 refine z3k he (z4g he rfl) rfl fun a he =>?_
 refine z3k he (y_assert he rfl runUnderlying177 (by intro ms h;cases h)) rfl fun a he =>?_
 refine z3k he (z4g he rfl) rfl fun a he =>
  z3k he (z8t he rfl rfl) rfl fun a he =>
  z3k he (z8t he rfl rfl) rfl fun a he =>?_
 refine st he rfl rfl rfl (z4j (cs:=[]) hm zeroValue177 rfl fun b2 w hm a he =>?_)
 refine st0 he rfl rfl (z2f 0 (cs:=[]) (vs:=[]) he hm rfl rfl rfl rfl sizeOf177 rfl rfl rfl fun w hm a he =>?_)
 refine z3k he (z9h he rfl) rfl fun a he =>?_
 refine wpList_nil ?_
 refine hL3 _ _ ?_
 refine sq fun L4 hL4 =>?_
 refine wp_region_lit ?_
 refine z3k he (z4g he rfl) rfl fun a he =>
  z3k he (y_not he rfl) rfl fun a he =>?_
 refine wpList_nil ?_
 refine hL4 _ _ ?_
 refine if_f he rfl ?_
 refine wp_skip ?_
 refine hL2 _ _ ?_
 refine wp_region_lit ?_
 refine st0 he rfl rfl (z2f 1 (cs:=[.int .i64 ((0:Nat):Int)]) (vs:=[.int .i64 ((4:Nat):Int)]) he hm rfl rfl rfl rfl sizeOf31 rfl rfl rfl fun w hm a he =>?_)
 refine wpList_nil ?_
 replace hm:Mem Φ (.blk b (ob [.int .i64 ((4:Nat):Int)] 31)::K) w:=hm.del 0
 exact hQ _ _ he.defs hm
set_option maxRecDepth 20000 in
theorem catch_idle {w:World} {b:Nat} :
  CallsD Tryz.prog 102 #[.pointer (some ⟨b,0,none⟩)] .returning w fun e u' w'=>e=.returned (.tuple #[])∧u'=.returning∧w'=w:=by
 generalize hR:(fun (e:Ending) (u':FrameMode) (w':World)=>e=.returned (.tuple #[])∧u'=.returning∧w'=w)=R
 refine callsD_of_wpS func102 rfl fun c₀ cs hu =>?_
 apply wpS_seq
 apply wpS_region
 show wpOpsS Tryz.prog _ _ [0,1] _ _ _
 simp [wpOpsS,go_sem,recoverD,hu,ntmps102,Exit.thenS,spentC]
 refine wpS_of_wp ?_
 have hQ:∀(a:Act),a.defers=[]→bodyPostS Tryz.prog Tryz.f102 c₀ cs R .normal a (c₀::cs) w:=fun a hd =>
  ⟨hd,.returning,by cases c₀;simp only at hu;subst hu;rfl,.tuple #[],results_none rfl _ _ _,by subst hR;exact ⟨rfl,rfl,rfl⟩⟩
 generalize hact:(Act.mk _ [])=a
 have he:EnvR 15 [(1,.nilIface),(0,.pointer (some ⟨b,0,none⟩))] [] a:=by
  subst hact
  refine ⟨rfl,fun t v h =>?_,rfl⟩
  obtain ⟨rfl,rfl⟩ | ⟨_,h⟩:=z5f h
  ·rfl
  ·obtain ⟨rfl,rfl⟩ | ⟨_,h⟩:=z5f h
   ·rfl
   ·cases h
 clear hact
 refine sq fun L1 hL1 =>?_
 refine wp_region_lit ?_
 refine z3k he (z4g he rfl) rfl fun a he =>?_
 refine z3k he (y0z (v:=.bool false) he rfl rfl rfl (by kernel_rfl)) rfl fun a he =>?_
 refine wpList_nil ?_
 refine hL1 _ _ ?_
 refine if_f he rfl ?_
 refine wp_skip ?_
 exact hQ _ he.defs
set_option maxRecDepth 20000 in
set_option maxHeartbeats 1000000 in
theorem within_ok {α β:Type} {r:Except Nat α} {g:FuncId} {cs:List Value} {Φ:Fz} {K0 K:List Res} {w:World} {F:α→β→Fz} {KO:α→β→List Res} {G:α→β→Prop}
  (hg:∀args w,(callFunc g args).run Tryz.prog w=.ok (.enter g args) w)
  (hf:∀b w,Mem Φ (.blk b (ob [.int .i64 ((0:Nat):Int)] 31)::K0) w→Calls Tryz.prog g cs.toArray w (fun e w'=>Out r
   (fun x=>∃y,e=.returned (.int .i64 ((0:Nat):Int))∧G x y∧Mem (F x y) (.blk b (ob [.int .i64 ((0:Nat):Int)] 31)::KO x y) w')
   (fun c=>(e=.returned (.int .i64 ((c:Nat):Int))∨c=4∧e=.panicked (spentC ()))∧Mem Φ (.blk b (ob [.int .i64 ((0:Nat):Int)] 31)::K) w')))
  (hm:Mem Φ K0 w):Calls Tryz.prog 45 (List.toArray [.func (.func g) (List.toArray []) cs.toArray]) w (fun e w'=>Out r
   (fun x=>∃y,e=.returned (.int .i64 ((0:Nat):Int))∧G x y∧Mem (F x y) (KO x y) w')
   (fun c=>e=.returned (.int .i64 ((c:Nat):Int))∧Mem Φ K w')):=by
 refine enterD func45 rfl ntmps45 rfl (fun Q hQ a he =>?_)
 refine sq fun L1 hL1 =>?_
 refine wp_region_lit ?_
 refine st he rfl rfl rfl (z4j (cs:=[.int .i64 ((0:Nat):Int)]) hm zeroValue31 rfl fun b w hm a he =>?_)
 refine wpList_nil ?_
 refine hL1 _ _ ?_
 refine sq fun L2 hL2 =>?_
 refine wp_region_lit ?_
 refine z3k he (y_makeFunc (vfs:=[]) (vcs:=[.pointer (some ⟨b,0,none⟩)]) he rfl rfl) rfl fun a he =>?_
 refine st_defer_fn (fs:=[]) (cs:=[.pointer (some ⟨b,0,none⟩)]) (vs:=[]) he rfl rfl fun a he =>?_
 refine wpList_nil ?_
 refine hL2 _ _ ?_
 refine sq fun L3 hL3 =>?_
 refine wp_region_lit ?_
 refine z3k he (z4g he rfl) rfl fun a he =>?_
 have hret:∀(a:Act) (w:World) (c:Int) (Φ1:Fz) (K1:List Res) (E:List (Nat×Value)),EnvR 6 E [{ target:=.fn (.func 102) #[.pointer (some ⟨b,0,none⟩)],args:=#[] }] a→get E 2=some (.pointer (some ⟨b,0,none⟩)) →
   Mem Φ1 (.blk b (ob [.int .i64 c] 31)::K1) w →
   (Out r (fun x=>∃y,Ending.returned (.int .i64 c)=.returned (.int .i64 ((0:Nat):Int))∧G x y∧Mem (F x y) (KO x y) w) (fun c'=>Ending.returned (.int .i64 c)=.returned (.int .i64 ((c':Nat):Int))∧Mem Φ K w))→Q .ret a w:=by
  intro a w c Φ1 K1 E he hg hm hR
  refine hQ _ _ _ ?_
  show Leaves _ _ _ _ a.defers _ _
  rw [he.defs]
  refine leaves_cons (f:=102) (args:=#[.pointer (some ⟨b,0,none⟩)]) (by simp) (call102 _ _) ?_
  refine catch_idle.mono ?_
  rintro e u' w'' ⟨rfl,rfl,rfl⟩
  exact ⟨.int .i64 c,results_cell (i:=0) he hm.toSees results45 hg rfl rfl isAgg31,hR⟩
 have hpan:∀(a:Act) (w:World) (E:List (Nat×Value)),EnvR 6 E [{ target:=.fn (.func 102) #[.pointer (some ⟨b,0,none⟩)],args:=#[] }] a→get E 2=some (.pointer (some ⟨b,0,none⟩)) →
   Mem Φ (.blk b (ob [.int .i64 ((0:Nat):Int)] 31)::K) w→r=.error 4→Q (.panic (spentC ())) a w:=by
  intro a w E he hg hm hr
  refine hQ _ _ _ ?_
  show Leaves _ _ _ _ a.defers _ _
  rw [he.defs]
  refine leaves_cons (f:=102) (args:=#[.pointer (some ⟨b,0,none⟩)]) (by simp) (call102 _ _) ?_
  refine (catch_spent hm).mono ?_
  rintro e u' w'' ⟨rfl,rfl,hm⟩
  refine ⟨.int .i64 ((4:Nat):Int),results_cell (i:=0) he hm.toSees results45 hg rfl rfl isAgg31,?_⟩
  subst hr
  exact ⟨rfl,hm.del 0⟩
 refine stP he rfl rfl rfl (eff_callv he rfl rfl hg (hf b w hm) (fun v w h a he =>?_) (fun c w h a he =>?_) (fun w h =>?_))
 ·cases hr:r with
  | ok x =>
   rw [hr] at h
   obtain ⟨y,h1,h2,hm⟩:=h
   cases h1
   refine st0 he rfl rfl (z2f 0 (cs:=[.int .i64 ((0:Nat):Int)]) (vs:=[.int .i64 ((0:Nat):Int)]) he hm rfl rfl rfl rfl sizeOf31 rfl rfl rfl fun w hm a he =>?_)
   refine wpList_nil ?_
   refine hL3 _ _ ?_
   refine wp_ret ?_
   exact hret a w _ _ (KO x y) _ he rfl hm (by rw [hr];exact ⟨y,rfl,h2,hm.del 0⟩)
  | error c =>
   rw [hr] at h
   obtain ⟨h1 | h1,hm⟩:=h
   ·cases h1
    refine st0 he rfl rfl (z2f 0 (cs:=[.int .i64 ((0:Nat):Int)]) (vs:=[.int .i64 ((c:Nat):Int)]) he hm rfl rfl rfl rfl sizeOf31 rfl rfl rfl fun w hm a he =>?_)
    refine wpList_nil ?_
    refine hL3 _ _ ?_
    refine wp_ret ?_
    exact hret a w _ _ K _ he rfl hm (by rw [hr];exact ⟨rfl,hm.del 0⟩)
   ·cases h1.2
 ·cases hr:r with
  | ok x =>
   rw [hr] at h
   obtain ⟨y,h1,_⟩:=h
   cases h1
  | error c' =>
   rw [hr] at h
   obtain ⟨h1 | h1,hm⟩:=h
   ·cases h1
   ·obtain ⟨rfl,h1⟩:=h1
    cases h1
    exact hpan a w _ he rfl hm hr
 ·cases hr:r with
  | ok x=>rw [hr] at h;obtain ⟨y,h1,_⟩:=h;cases h1
  | error c' =>
   rw [hr] at h
   obtain ⟨h1 | h1,hm⟩:=h
   ·cases h1
   ·cases h1.2
end Go.Sw

namespace Go.Sw
open Go.Proofs
structure Outcome where
 outputs:List Named
 steps:Int
def ROutcome (Φ:Fz) (cs:List Value) (o:Outcome):Prop:=∃s,cs=[s,.int .i64 o.steps]∧SliceOf RNamed Φ 4 s o.outputs
theorem ROutcome.mono (Φ Ψ:Fz) (c:List Value) (x:Outcome) (hl:Φ.Le Ψ) (h:ROutcome Φ c x):ROutcome Ψ c x:=let ⟨s,h1,h2⟩:=h;⟨s,h1,h2.mono RNamed.mono hl⟩
def out0:Outcome:=⟨[],0⟩
def z6z (os:List Bs) (xs:List Val):List Named:=List.zipWith Named.mk os xs
theorem names_get {os:List Bs} {xs:List Val} {i:Nat} {o:Bs} {x:Val} (h1:os[i]? = some o) (h2:xs[i]? = some x):(z6z os xs)[i]? = some ⟨o,x⟩:=by
 simp [z6z,List.getElem?_zipWith,h1,h2]
theorem names_all {os:List Bs} {xs:List Val} {i:Nat} (h:¬i < xs.length):(z6z os xs).take i=z6z os xs:=List.take_of_length_le (by simp [z6z];omega)
theorem z8h {C:Ctx} {o:Bs} {os:List Bs} {f:Fun} {g:Nat} (h:lget C.funs o=some f):z3y C (o::os) g=(z5e (z2g C) f [] g).bind fun v g=>(z3y C os g).bind fun l g=>.ok (v::l) g:=by
 simp only [z3y,h]
theorem outs_nofun {C:Ctx} {o:Bs} {os:List Bs} {g:Nat} (h:lget C.funs o=none):z3y C (o::os) g=.stuck:=by
 simp only [z3y,h]
theorem z0r {C:Ctx} {o:Bs} {os:List Bs} {f:Fun} {g1 g2:Nat} {z:Val} {xs:List Val} (h:lget C.funs o=some f) (hv:z5e (z2g C) f [] g1=.ok z g2) :
  (z3y C (o::os) g1).bind (fun vs g=>.ok (xs++vs) g)=(z3y C os g2).bind fun vs g=>.ok ((xs++[z])++vs) g:=by
 rw [z8h h,hv]
 simp only [Ev.bind]
 cases z3y C os g2 <;> simp
theorem z9e {C:Ctx} {o:Bs} {os:List Bs} {f:Fun} {g1:Nat} {xs:List Val} (h:lget C.funs o=some f) (hv:z5e (z2g C) f [] g1=.spent) :
  (z3y C (o::os) g1).bind (fun vs g=>.ok (xs++vs) g)=.spent:=by
 rw [z8h h,hv];rfl
theorem outs_nil_ok {C:Ctx} {g1:Nat} {xs:List Val}:(z3y C [] g1).bind (fun vs g=>.ok (xs++vs) g)=.ok xs g1:=by simp [z3y,Ev.bind]
def endP (r:Ev (List Val)):Except Nat (List Val×Nat):=match r with
 | .ok vs g=>if vs.any z6e then .error 7 else .ok (vs,g)
 | _=>.error 4
theorem endP_large {r:Ev (List Val)} {vs:List Val} {g:Nat} (h:r=.ok vs g) (hl:vs.any z6e=true):endP r=.error 7:=by subst h;simp only [endP,hl,if_true]
theorem endP_ok {r:Ev (List Val)} {vs:List Val} {g:Nat} (h:r=.ok vs g) (hl:vs.any z6e=false):endP r=.ok (vs,g):=by subst h;simp only [endP,hl];rfl
theorem endP_spent {r:Ev (List Val)} (h:r=.spent):endP r=.error 4:=by subst h;rfl
theorem endOut {r:Except Nat (List Val×Nat)} {x:List Val×Nat} {A:List Val×Nat→Prop} {B:Nat→Prop} (h:r=.ok x) (hA:A x):Out r A B:=by subst h;exact hA
theorem endOutE {r:Except Nat (List Val×Nat)} {x:Nat} {A:List Val×Nat→Prop} {B:Nat→Prop} (h:r=.error x) (hB:B x):Out r A B:=by subst h;exact hB
def runP (c:Core) (l:List Named) (fuel:Int):Outcome×Int :=
 if z1g c≠0 then (out0,z1g c)
 else if fuel < 0∨200000 < fuel then (out0,1)
 else if z9b (z0f c) l c.inputs=false then (out0,8)
 else match endP (z3y ⟨(z0f c).funs,inpP l⟩ c.outputs fuel.toNat) with
  | .ok (vs,g)=>(⟨z6z c.outputs vs,((fuel.toNat - g:Nat):Int)⟩,0)
  | .error e=>(out0,((e:Nat):Int))
theorem z1o (l:List Int) (x:Int):ints (l++[x])=ints l++[.int .i64 x]:=by simp [ints]
end Go.Sw

namespace Go.Sw
open Go.Proofs.Tryz
open Go.Proofs
def Fz.whole (W:World):Fz:=⟨fun b=>W.heap[b]?,W.os,W.output⟩
theorem Mem.whole (W:World):Mem (Fz.whole W) [] W :=
 { fz:=fun _ _ h=>h,own:=fun _ h=>(by cases h),os:=rfl,out:=rfl,nodup:=List.nodup_nil,apart:=fun _ h=>(by cases h) }
theorem cell_parts {W:World} {a:Addr} {v:Value} (h:W.cell? a=some v):a.spot=none∧∃arr T fr,W.heap[a.block]? = some (.cells arr T fr)∧arr[a.off]? = some v:=by
 unfold World.cell? at h
 split at h
 ·rename_i c T fr he
  split at h
  ·cases h
  ·rename_i hs
   refine ⟨?_,c,T,fr,he,h⟩
   cases hq:a.spot with
   | none=>rfl
   | some x=>simp [hq] at hs
 ·cases h
theorem at_whole {W:World} {a:Addr} {cells:List Value} (hne:cells≠[]) (h:∀(j:Nat) (v:Value),cells[j]? = some v→W.cell? (a.add j)=some v):At (Fz.whole W) a cells:=by
 obtain ⟨v0,r,rfl⟩:=List.exists_cons_of_ne_nil hne
 obtain ⟨hs,arr,T,fr,hb,h0⟩:=cell_parts (h 0 v0 rfl)
 rw [show a.add 0=a from rfl] at hs hb h0
 refine ⟨hs,arr,T,fr,hb,fun j v hj =>?_⟩
 obtain ⟨_,arr',T',fr',hb',h1⟩:=cell_parts (h j v hj)
 have eb:(a.add j).block=a.block:=by unfold Addr.add;split <;> rfl
 have eo:(a.add j).off=a.off+j:=by unfold Addr.add;split <;> simp_all
 rw [eb,hb] at hb'
 simp only [Option.some.injEq,Obj.cells.injEq] at hb'
 rw [eo,← hb'.1] at h1
 exact h1
section
variable {H:Type} {enc:TypeId×Value→H} {W:World}
noncomputable abbrev trd (enc:TypeId×Value→H) (W:World) (n:Nat) (t:TypeId) (cs:List Value):=DataW.trod enc Tryz.prog W 0 (fun _=>true) true n t cs
theorem z5a {α:Type} {R:Fz→List Value→α→Prop} {t e:TypeId} {k fuel:Nat} {cs:List Value} {x:DataW H×List MemPlace} (ht:Tryz.prog.underlying t=some (.slice e)) (hc:Tryz.prog.cellsOf e=k) (hk:0 < k)
  (IH:∀m,m < fuel→∀cs x,trd enc W m e cs=some x→∃a:α,R (Fz.whole W) cs a) (h:trd enc W fuel t cs=some x):∃v l,cs=[v]∧SliceOf R (Fz.whole W) k v l:=by
 rcases DataW.trod_slice ht h with ⟨rfl,_⟩ | ⟨a,len,cap,elems,rest,n,rfl,rfl,_,_,hl,hm,hlen,hel,_⟩
 ·exact ⟨_,[],rfl,SliceOf.nil k⟩
 ·rw [hc] at hel
  have key:∀m,m≤len→∃(cells:List Value) (l:List α),cells.length=m * k∧Chunks (R (Fz.whole W)) k cells l∧∀(j:Nat) (v:Value),cells[j]? = some v→W.cell? (a.add j)=some v:=by
   intro m
   induction m with
   | zero=>exact fun _=>⟨[],[],by simp,rfl,fun j v hj=>by simp at hj⟩
   | succ m ih =>
    intro hm'
    obtain ⟨cells,l,h1,h2,h3⟩:=ih (by omega)
    have he:=hel m (by omega)
    rw [List.getElem?_eq_getElem (by omega)] at he
    obtain ⟨cs',e1,e2⟩:=Option.bind_eq_some_iff.1 he
    obtain ⟨_,hlc,hcell⟩:=World.cells?_some e1
    obtain ⟨y,hy⟩:=IH n (Nat.lt_succ_self n) cs' _ e2
    refine ⟨cells++cs',l++[y],by rw [List.length_append,h1,hlc,Nat.succ_mul],h2.snoc hlc hy,fun j v hj =>?_⟩
    by_cases hlt:j < cells.length
    ·rw [List.getElem?_append_left hlt] at hj
     exact h3 j v hj
    ·rw [List.getElem?_append_right (by omega)] at hj
     have hj2:j - cells.length < k:=by
      have:=(List.getElem?_eq_some_iff.1 hj).1
      omega
     have:=hcell (j - cells.length) hj2
     rw [Deep.add_add,hj] at this
     rw [h1] at this hlt hj2
     rw [show m * k+(j - m * k)=j by omega] at this
     exact this
  obtain ⟨cells,l,h1,h2,h3⟩:=key len (Nat.le_refl _)
  exact ⟨_,l,rfl,cells,.inr ⟨a,len,cap,rfl,h1,by omega,fun hne=>at_whole hne h3⟩,h2⟩
theorem z1q {α:Type} {l:List α} {n:Nat} (h:l.length=n+1):∃a r,l=a::r∧r.length=n:=by
 cases l with
 | nil=>cases h
 | cons a r=>exact ⟨a,r,rfl,by simpa using h⟩
theorem i64_of {n:Int} (h:(Lit.int .i64 n).wf=true):I64 n:=by
 simp only [Lit.wf,Bool.and_eq_true,decide_eq_true_eq] at h
 have h1:=h.1
 have h2:=h.2
 simp [IntKind.min,IntKind.max,IntKind.signed,IntKind.bits] at h1 h2
 exact ⟨by omega,by omega⟩
theorem z6i {n:Nat} {cs:List Value} {x:DataW H×List MemPlace} (h:trd enc W n 9 cs=some x):∃s:Bs,cs=[.string s]:=by
 obtain ⟨s,h1,_⟩:=DataW.trod_string underlying9 h
 exact ⟨s,h1⟩
theorem strR_read {n:Nat} {cs:List Value} {x:DataW H×List MemPlace} (h:trd enc W n 9 cs=some x):∃s:Bs,RStr (Fz.whole W) cs s:=z6i h
theorem int_read {n:Nat} {cs:List Value} {x:DataW H×List MemPlace} (h:trd enc W n 3 cs=some x):∃i:Int,cs=[.int .i64 i]∧I64 i:=by
 obtain ⟨i,h1,_,h2⟩:=DataW.trod_int underlying3 h
 exact ⟨i,h1,i64_of h2⟩
theorem z6v {t:TypeId} {fs:Array Field} {n:Nat} {cs:List Value} {x:DataW H×List MemPlace} (ht:Tryz.prog.underlying t=some (.struct fs)) (h:trd enc W n t cs=some x) :
  ∃m,n=m+1∧cs.length=Tryz.prog.cellsOf t∧∀(i:Nat) (u:TypeId) (o:Nat),(fs[i]?).map (fun f=>(f.type,f.offset))=some (u,o)→∃y,trd enc W m u ((cs.drop o).take (Tryz.prog.cellsOf u))=some y:=by
 obtain ⟨xs,m,h1,_,h2,h3,h4⟩:=DataW.trod_struct ht h
 refine ⟨m,h1,h2,fun i u o hf =>?_⟩
 obtain ⟨f,hf2,e⟩:=Option.map_eq_some_iff.1 hf
 simp only [Prod.mk.injEq] at e
 obtain ⟨rfl,rfl⟩:=e
 have hi:i < xs.length:=by
  rw [h3]
  exact (Array.getElem?_eq_some_iff.1 hf2).1
 exact ⟨xs[i],by rw [← List.getElem?_eq_getElem hi];exact h4 i f hf2⟩
theorem c9:Tryz.prog.cellsOf 9=1:=by kernel_rfl
theorem c3:Tryz.prog.cellsOf 3=1:=by kernel_rfl
theorem c66:Tryz.prog.cellsOf 66=5:=by kernel_rfl
theorem c195:Tryz.prog.cellsOf 195=7:=by kernel_rfl
theorem c42:Tryz.prog.cellsOf 42=3:=by kernel_rfl
theorem c62:Tryz.prog.cellsOf 62=4:=by kernel_rfl
theorem c72:Tryz.prog.cellsOf 72=2:=by kernel_rfl
theorem c135:Tryz.prog.cellsOf 135=2:=by kernel_rfl
theorem c133:Tryz.prog.cellsOf 133=2:=by kernel_rfl
theorem c68:Tryz.prog.cellsOf 68=8:=by kernel_rfl
theorem c27:Tryz.prog.cellsOf 27=4:=by kernel_rfl
theorem c25:Tryz.prog.cellsOf 25=1:=by kernel_rfl
theorem c63:Tryz.prog.cellsOf 63=1:=by kernel_rfl
theorem c64:Tryz.prog.cellsOf 64=1:=by kernel_rfl
theorem c38:Tryz.prog.cellsOf 38=1:=by kernel_rfl
theorem c23:Tryz.prog.cellsOf 23=1:=by kernel_rfl
theorem c22:Tryz.prog.cellsOf 22=1:=by kernel_rfl
theorem c24:Tryz.prog.cellsOf 24=1:=by kernel_rfl
theorem c131:Tryz.prog.cellsOf 131=1:=by kernel_rfl
theorem strs_read {n:Nat} {cs:List Value} {x:DataW H×List MemPlace} (h:trd enc W n 25 cs=some x):∃v l,cs=[v]∧SliceOf RStr (Fz.whole W) 1 v l :=
 z5a underlying25 c9 (by decide) (fun _ _ _ _ h=>strR_read h) h
theorem expr_read:∀(n:Nat) (cs:List Value) (x:DataW H×List MemPlace),trd enc W n 66 cs=some x→∃e:Ex,REx (Fz.whole W) cs e:=by
 intro n
 induction n using Nat.strongRecOn with
 | ind n ih =>
  intro cs x h
  obtain ⟨m,rfl,hl,hf⟩:=z6v underlying66 h
  rw [c66] at hl
  obtain ⟨a0,r,rfl,hl1⟩:=z1q hl
  obtain ⟨a1,r,rfl,hl2⟩:=z1q hl1
  obtain ⟨a2,r,rfl,hl3⟩:=z1q hl2
  obtain ⟨a3,r,rfl,hl4⟩:=z1q hl3
  obtain ⟨a4,r,rfl,hl5⟩:=z1q hl4
  obtain rfl:=List.eq_nil_of_length_eq_zero hl5
  obtain ⟨_,f0⟩:=hf 0 3 0 rfl
  obtain ⟨_,f1⟩:=hf 1 3 1 rfl
  obtain ⟨_,f2⟩:=hf 2 9 2 rfl
  obtain ⟨_,f3⟩:=hf 3 63 3 rfl
  obtain ⟨_,f4⟩:=hf 4 64 4 rfl
  simp only [c3,c9,c63,c64,List.drop_succ_cons,List.drop_zero,List.take_succ_cons,List.take_zero] at f0 f1 f2 f3 f4
  obtain ⟨k,e0,_⟩:=int_read f0
  obtain ⟨nm,e1,h1⟩:=int_read f1
  obtain ⟨s,e2⟩:=z6i f2
  obtain ⟨v3,l3,e3,h3⟩:=z5a (R:=REx) underlying63 c66 (by decide) (fun j hj cs x h=>ih j (by omega) cs x h) f3
  obtain ⟨v4,l4,e4,h4⟩:=z5a (R:=RArm) underlying64 c195 (by decide) (fun j hj cs x h=>by
   obtain ⟨m',rfl,hl,hf⟩:=z6v underlying195 h
   rw [c195] at hl
   obtain ⟨b0,r,rfl,hl6⟩:=z1q hl
   obtain ⟨b1,r,rfl,hl7⟩:=z1q hl6
   obtain ⟨_,g0⟩:=hf 0 9 0 rfl
   obtain ⟨_,g1⟩:=hf 1 25 1 rfl
   obtain ⟨_,g2⟩:=hf 2 66 2 rfl
   simp only [c9,c25,c66,List.drop_succ_cons,List.drop_zero,List.take_succ_cons,List.take_zero] at g0 g1 g2
   rw [List.take_of_length_le (by omega)] at g2
   obtain ⟨s,e0⟩:=z6i g0
   obtain ⟨v1,l1,e1,h1⟩:=strs_read g1
   obtain ⟨b,hb⟩:=ih m' (by omega) _ _ g2
   simp only [List.cons.injEq,and_true] at e0 e1
   subst e0 e1
   exact ⟨.mk s l1 b,⟨_,r,rfl,by omega,h1,hb⟩⟩) f4
  simp only [List.cons.injEq,and_true] at e0 e1 e2 e3 e4
  subst e0 e1 e2 e3 e4
  exact ⟨.mk k nm s l3 l4,REx.iff.2 ⟨_,_,rfl,h1,h3,h4⟩⟩
theorem value_read:∀(n:Nat) (cs:List Value) (x:DataW H×List MemPlace),trd enc W n 42 cs=some x→∃e:Val,RVal (Fz.whole W) cs e:=by
 intro n
 induction n using Nat.strongRecOn with
 | ind n ih =>
  intro cs x h
  obtain ⟨m,rfl,hl,hf⟩:=z6v underlying42 h
  rw [c42] at hl
  obtain ⟨a0,r,rfl,hl8⟩:=z1q hl
  obtain ⟨a1,r,rfl,hl9⟩:=z1q hl8
  obtain ⟨a2,r,rfl,hl10⟩:=z1q hl9
  obtain rfl:=List.eq_nil_of_length_eq_zero hl10
  obtain ⟨_,f0⟩:=hf 0 9 0 rfl
  obtain ⟨_,f1⟩:=hf 1 3 1 rfl
  obtain ⟨_,f2⟩:=hf 2 38 2 rfl
  simp only [c3,c9,c38,List.drop_succ_cons,List.drop_zero,List.take_succ_cons,List.take_zero] at f0 f1 f2
  obtain ⟨s,e0⟩:=z6i f0
  obtain ⟨i,e1,h1⟩:=int_read f1
  obtain ⟨v,l,e2,h2⟩:=z5a (R:=RVal) underlying38 c42 (by decide) (fun j hj cs x h=>ih j (by omega) cs x h) f2
  simp only [List.cons.injEq,and_true] at e0 e1 e2
  subst e0 e1 e2
  exact ⟨.mk s i l,RVal.iff.2 ⟨_,rfl,h1,h2⟩⟩
theorem param_read {n:Nat} {cs:List Value} {x:DataW H×List MemPlace} (h:trd enc W n 72 cs=some x):∃p:Param,RParam (Fz.whole W) cs p:=by
 obtain ⟨m,rfl,hl,hf⟩:=z6v underlying72 h
 rw [c72] at hl
 obtain ⟨a0,r,rfl,hl11⟩:=z1q hl
 obtain ⟨a1,r,rfl,hl12⟩:=z1q hl11
 obtain rfl:=List.eq_nil_of_length_eq_zero hl12
 obtain ⟨_,f0⟩:=hf 0 9 0 rfl
 obtain ⟨_,f1⟩:=hf 1 9 1 rfl
 simp only [c9,List.drop_succ_cons,List.drop_zero,List.take_succ_cons,List.take_zero] at f0 f1
 obtain ⟨s,e0⟩:=z6i f0
 obtain ⟨u,e1⟩:=z6i f1
 simp only [List.cons.injEq,and_true] at e0 e1
 subst e0 e1
 exact ⟨⟨s,u⟩,rfl⟩
theorem con_read {n:Nat} {cs:List Value} {x:DataW H×List MemPlace} (h:trd enc W n 135 cs=some x):∃p:Con,RCon (Fz.whole W) cs p:=by
 obtain ⟨m,rfl,hl,hf⟩:=z6v underlying135 h
 rw [c135] at hl
 obtain ⟨a0,r,rfl,hl13⟩:=z1q hl
 obtain ⟨a1,r,rfl,hl14⟩:=z1q hl13
 obtain rfl:=List.eq_nil_of_length_eq_zero hl14
 obtain ⟨_,f0⟩:=hf 0 9 0 rfl
 obtain ⟨_,f1⟩:=hf 1 25 1 rfl
 simp only [c9,c25,List.drop_succ_cons,List.drop_zero,List.take_succ_cons,List.take_zero] at f0 f1
 obtain ⟨s,e0⟩:=z6i f0
 obtain ⟨v,l,e1,h1⟩:=strs_read f1
 simp only [List.cons.injEq,and_true] at e0 e1
 subst e0 e1
 exact ⟨⟨s,l⟩,_,rfl,h1⟩
theorem data_read {n:Nat} {cs:List Value} {x:DataW H×List MemPlace} (h:trd enc W n 133 cs=some x):∃p:Data,RData (Fz.whole W) cs p:=by
 obtain ⟨m,rfl,hl,hf⟩:=z6v underlying133 h
 rw [c133] at hl
 obtain ⟨a0,r,rfl,hl15⟩:=z1q hl
 obtain ⟨a1,r,rfl,hl16⟩:=z1q hl15
 obtain rfl:=List.eq_nil_of_length_eq_zero hl16
 obtain ⟨_,f0⟩:=hf 0 9 0 rfl
 obtain ⟨_,f1⟩:=hf 1 131 1 rfl
 simp only [c9,c131,List.drop_succ_cons,List.drop_zero,List.take_succ_cons,List.take_zero] at f0 f1
 obtain ⟨s,e0⟩:=z6i f0
 obtain ⟨v,l,e1,h1⟩:=z5a (R:=RCon) underlying131 c135 (by decide) (fun _ _ _ _ h=>con_read h) f1
 simp only [List.cons.injEq,and_true] at e0 e1
 subst e0 e1
 exact ⟨⟨s,l⟩,_,rfl,h1⟩
theorem params_read {n:Nat} {cs:List Value} {x:DataW H×List MemPlace} (h:trd enc W n 23 cs=some x):∃v l,cs=[v]∧SliceOf RParam (Fz.whole W) 2 v l :=
 z5a underlying23 c72 (by decide) (fun _ _ _ _ h=>param_read h) h
theorem fun_read {n:Nat} {cs:List Value} {x:DataW H×List MemPlace} (h:trd enc W n 68 cs=some x):∃p:Fun,RFun (Fz.whole W) cs p:=by
 obtain ⟨m,rfl,hl,hf⟩:=z6v underlying68 h
 rw [c68] at hl
 obtain ⟨a0,r,rfl,hl17⟩:=z1q hl
 obtain ⟨a1,r,rfl,hl18⟩:=z1q hl17
 obtain ⟨a2,r,rfl,hl19⟩:=z1q hl18
 obtain ⟨_,f0⟩:=hf 0 9 0 rfl
 obtain ⟨_,f1⟩:=hf 1 23 1 rfl
 obtain ⟨_,f2⟩:=hf 2 9 2 rfl
 obtain ⟨_,f3⟩:=hf 3 66 3 rfl
 simp only [c9,c23,c66,List.drop_succ_cons,List.drop_zero,List.take_succ_cons,List.take_zero] at f0 f1 f2 f3
 rw [List.take_of_length_le (by omega)] at f3
 obtain ⟨s,e0⟩:=z6i f0
 obtain ⟨v,l,e1,h1⟩:=params_read f1
 obtain ⟨u,e2⟩:=z6i f2
 obtain ⟨b,hb⟩:=expr_read _ _ _ f3
 simp only [List.cons.injEq,and_true] at e0 e1 e2
 subst e0 e1 e2
 exact ⟨⟨s,l,u,b⟩,_,r,rfl,h1,hb⟩
theorem core_read {n:Nat} {cs:List Value} {x:DataW H×List MemPlace} (h:trd enc W n 27 cs=some x):∃p:Core,RCore (Fz.whole W) cs p:=by
 obtain ⟨m,rfl,hl,hf⟩:=z6v underlying27 h
 rw [c27] at hl
 obtain ⟨a0,r,rfl,hl20⟩:=z1q hl
 obtain ⟨a1,r,rfl,hl21⟩:=z1q hl20
 obtain ⟨a2,r,rfl,hl22⟩:=z1q hl21
 obtain ⟨a3,r,rfl,hl23⟩:=z1q hl22
 obtain rfl:=List.eq_nil_of_length_eq_zero hl23
 obtain ⟨_,f0⟩:=hf 0 22 0 rfl
 obtain ⟨_,f1⟩:=hf 1 23 1 rfl
 obtain ⟨_,f2⟩:=hf 2 24 2 rfl
 obtain ⟨_,f3⟩:=hf 3 25 3 rfl
 simp only [c22,c23,c24,c25,List.drop_succ_cons,List.drop_zero,List.take_succ_cons,List.take_zero] at f0 f1 f2 f3
 obtain ⟨v0,l0,e0,h0⟩:=z5a (R:=RData) underlying22 c133 (by decide) (fun _ _ _ _ h=>data_read h) f0
 obtain ⟨v1,l1,e1,h1⟩:=params_read f1
 obtain ⟨v2,l2,e2,h2⟩:=z5a (R:=RFun) underlying24 c68 (by decide) (fun _ _ _ _ h=>fun_read h) f2
 obtain ⟨v3,l3,e3,h3⟩:=strs_read f3
 simp only [List.cons.injEq,and_true] at e0 e1 e2 e3
 subst e0 e1 e2 e3
 exact ⟨⟨l0,l1,l2,l3⟩,_,_,_,_,rfl,h0,h1,h2,h3⟩
theorem named_read {n:Nat} {cs:List Value} {x:DataW H×List MemPlace} (h:trd enc W n 62 cs=some x):∃p:Named,RNamed (Fz.whole W) cs p:=by
 obtain ⟨m,rfl,hl,hf⟩:=z6v underlying62 h
 rw [c62] at hl
 obtain ⟨a0,r,rfl,hl24⟩:=z1q hl
 obtain ⟨_,f0⟩:=hf 0 9 0 rfl
 obtain ⟨_,f1⟩:=hf 1 42 1 rfl
 simp only [c9,c42,List.drop_succ_cons,List.drop_zero,List.take_succ_cons,List.take_zero] at f0 f1
 rw [List.take_of_length_le (by omega)] at f1
 obtain ⟨s,e0⟩:=z6i f0
 obtain ⟨v,hv⟩:=value_read _ _ _ f1
 simp only [List.cons.injEq,and_true] at e0
 subst e0
 exact ⟨⟨s,v⟩,r,rfl,hv⟩
theorem nameds_read {n:Nat} {cs:List Value} {x:DataW H×List MemPlace} (h:trd enc W n 28 cs=some x):∃v l,cs=[v]∧SliceOf RNamed (Fz.whole W) 4 v l :=
 z5a underlying28 c62 (by decide) (fun _ _ _ _ h=>named_read h) h
end
end Go.Sw

namespace Go.Proofs.YtgkhcfjooiekkaaGreatDoor
open Go.ChangeShapes Go.WideShapes Go.ChangeAt Go.RowKit Go.Sw
theorem own:ownKnob Tryz.prog.godebug=none:=by kernel_rfl
theorem laidOut:laidOutB Tryz.prog=true:=by kernel_rfl
abbrev laidAll:List (String×DataW Unit):=Rows.coreFuelRow.laid
theorem cells_at {W:World} {g:Nat} {cs:List Value} (h:∀(i:Nat) (v:Value),cs[i]? = some v→W.cell? ⟨g,i,none⟩=some v) (hne:cs≠[]):At (Fz.whole W) ⟨g,0,none⟩ cs :=
 at_whole hne fun j v hj=>by
  have:=h j v hj
  have e:(⟨g,0,none⟩:Addr).add j=⟨g,j,none⟩:=by unfold Addr.add;split <;> simp_all
  rw [e];exact this
theorem maxLen_at {W:World} (hsh:W.ShapedOpen Tryz.prog):∃m,At (Fz.whole W) ⟨0,0,none⟩ [.int .i64 m]:=by
 obtain ⟨m,hm⟩:=cell_of_shapedOpen_int (P:=Tryz.prog) (g:=0) (t:=3) (k:=.i64) (zero:=#[.int .i64 0]) hsh (of_decide_eq_true (by kernel_rfl)) (by kernel_rfl) rfl (by kernel_rfl) (by kernel_rfl) (by kernel_rfl)
 exact ⟨m,cells_at (fun i v hi=>by
  cases i with
  | zero=>simp at hi;subst hi;exact hm
  | succ i=>simp at hi) (by simp)⟩
theorem tabs_of {W:World} (hL:laidMet Tryz.prog laidAll W):Tabs (Fz.whole W):=by
 have h2:laidMet Tryz.prog (("internal/strconv.uint64pow10",Lib.tabData .u64 Lib.pow10Tab)::_) W:=hL.tail.tail
 have h3:=Lib.tabIs_of_head (P:=Tryz.prog) (g:=1) (t:=291) (e:=241) (n:=20) (by kernel_rfl) (by kernel_rfl) (by kernel_rfl) (by kernel_rfl) (by kernel_rfl) (by kernel_rfl) h2
 intro w hs
 unfold Lib.TabIs at h3 ⊢
 unfold World.var? at h3 ⊢
 cases hg:Tryz.prog.globalNamed "internal/strconv.uint64pow10" with
 | none=>rw [hg] at h3;cases h3
 | some g =>
  rw [hg] at h3
  simp only [Option.bind_some] at h3 ⊢
  split at h3
  ·rename_i cs t fr he
   rw [hs.fz g _ he]
   exact h3
  ·cases h3
theorem err_at {W:World} {n:String} {d:DataW Unit} {g:Nat} {r:List (String×DataW Unit)} (h:laidMet Tryz.prog ((n,d)::r) W) (hg:Tryz.prog.globalNamed n=some g) (ht:(Tryz.prog.globals[g]?).map (·.type)=some 138):ErrAt (Fz.whole W) g:=by
 obtain ⟨ps,⟨g',t',cs,fuel,p,q,hg',ht',hvar,hd,_,_⟩,_⟩:=h
 obtain rfl:=Option.some.inj (hg.symm.trans hg')
 obtain rfl:=Option.some.inj (ht.symm.trans ht')
 have key:∃v,cs.toList=[v]∧(v=.nilIface∨∃t p,v=.iface t p):=by
  cases fuel with
  | zero=>simp [DataW.trod] at hd
  | succ fuel =>
   unfold DataW.trod at hd
   generalize hu:Tryz.prog.underlying 138=u at hd
   have hu2:∃ms,u=some (.interface ms):=⟨_,hu.symm.trans Tryz.underlying138⟩
   clear hu
   obtain ⟨ms,rfl⟩:=hu2
   split at hd <;> simp_all
 obtain ⟨v,hv,hk⟩:=key
 refine ⟨v,cells_at (fun i u hi =>?_) (by simp),hk⟩
 cases i with
 | zero =>
  simp at hi;subst hi
  have:=World.var?_cell hg hvar 0
  rw [this,← Array.getElem?_toList,hv]
  rfl
 | succ i=>simp at hi
theorem glob_of {W:World} (hsh:W.ShapedOpen Tryz.prog) (hL:laidMet Tryz.prog laidAll W):Glob (Fz.whole W) :=
 ⟨maxLen_at hsh,tabs_of hL,err_at (g:=4) hL.tail.tail.tail.tail.tail (by kernel_rfl) (by kernel_rfl),err_at (g:=5) hL.tail.tail.tail.tail (by kernel_rfl) (by kernel_rfl)⟩
end Go.Proofs.YtgkhcfjooiekkaaGreatDoor

namespace Go.Proofs.YtgkhcfjooiekkaaGreatDoor
open Go.ChangeShapes Go.WideShapes Go.ChangeAt Go.RowKit Go.Sw
set_option maxRecDepth 100000
section
variable {H:Type} {enc:TypeId×Value→H}
theorem wrap_sized {a:Assume} {C:Checked} {os:Os} {f:FuncId} {fn:Func} {s:ChangeSpec} {conds:List PathCond} {apart fresh handsOn again:Bool} {X:World→Array Value→Prop}
  (hX:∀(w w':World) (args:Array Value),w.heap=w'.heap→X w args→X w' args)
  (own:ownKnob C.prog.godebug=none) (started:os.Started) (noInit:C.prog.inits.idxOf? f=none) (hfn:C.prog.funcs[f]? = some fn)
  (witness:∃(w:World) (tape:Tape) (i:Input),w.os=os∧(w.forCall tape i).Shaped C.prog∧i.vars=[]∧Input.okWide C.prog (w.forCall tape i) .any w.heap.size f i ∧
   ((s.pre enc C.prog fn conds apart (w.forCall tape i).memory i.args∧X (w.forCall tape i).memory i.args)∧sizedMet enc C.prog fn (OpenSpec.ofChange s) apart (w.forCall tape i).memory i.args)∧a.holds C.prog (lone (Frame.enter C.prog f i.args .normal) [] (w.forCall tape i)))
  (contract:∀(W:World) (base:Nat) (args:Array Value) (ds gs:List (DataW H)) (before:List MemPlace),
   (∀(j:Nat) t v,fn.params[j]? = some t→args[j]? = some v→Value.okWide C.prog W .any base t v) →
   DataW.Whole enc C.prog fn.params.toList s.vars apart W args.toList ds gs before→X W args→sizedMet enc C.prog fn (OpenSpec.ofChange s) apart W args→W.ShapedOpen C.prog →
   Calls C.prog f args W fun e W'=>∃v,e=.returned v∧s.post enc C.prog fn apart fresh handsOn again W args v W') :
  ReturnsInHanded a C os f .any (fun w args=>(s.pre enc C.prog fn conds apart w args∧X w args)∧sizedMet enc C.prog fn (OpenSpec.ofChange s) apart w args) (s.post enc C.prog fn apart fresh handsOn again):=by
 refine returnsInHanded_of_calls own started noInit witness ?_
 intro w tape i _ hsh _ hok hpre _
 obtain ⟨_,_,_,fn',hfn',_,_,_,_,hval⟩:=hok
 have e:fn'=fn:=Option.some.inj (hfn'.symm.trans hfn)
 subst e
 obtain ⟨⟨⟨ds,gs,before,hw,_⟩,hx⟩,hp,ds',gs',before',hz,hz'⟩:=hpre
 have hw':=DataW.Whole.of_heap (w':=w.forCall tape i) (by rfl) hw
 refine (contract (w.forCall tape i) w.heap.size i.args ds gs before hval hw' (hX _ _ _ (by rfl) hx) ⟨hp,ds',gs',before',DataW.Whole.of_heap (w':=w.forCall tape i) (by rfl) hz,hz'⟩ hsh).mono fun e W' ⟨v,he,hp⟩ =>?_
 subst he
 exact ChangeSpec.post_blind hp
theorem old_blocks {W W':World} (hm:Mem (Fz.whole W) [] W'):∀k,k < W.heap.size→W'.heap[k]? = W.heap[k]? := fun k hk=>by
 have h:W.heap[k]? = some W.heap[k]:=Array.getElem?_eq_getElem hk
 rw [h]
 exact hm.fz k _ h
theorem old_size {W W':World} (hm:Mem (Fz.whole W) [] W'):W.heap.size≤W'.heap.size:=by
 rcases Nat.lt_or_ge W'.heap.size W.heap.size with h | h
 ·have h1:=old_blocks hm W'.heap.size h
  rw [Array.getElem?_eq_getElem h] at h1
  simp at h1
 ·exact h
theorem trod_later {W W':World} (hm:Mem (Fz.whole W) [] W') {t:TypeId} (hr:Tryz.prog.readableRec t=true) (hrow:t < Tryz.prog.types.size) {v:Value} {d:DataW H} {ps:List MemPlace}
  (h:DataW.Trod enc Tryz.prog W 0 (fun _=>true) true t v d ps) (hlt:∀x∈ps,x.block < W.heap.size):DataW.Trod enc Tryz.prog W' 0 (fun b=>decide (b < W.heap.size)) true t v d ps:=by
 have hs:=old_size hm
 have ho:=old_blocks hm
 have hb:Below W.heap.size W { W with heap:=W'.heap }:={ os:=rfl,tape:=rfl,output:=rfl,size:=hs,block:=ho }
 exact DataW.Trod.of_heap (w:={ W with heap:=W'.heap }) (w':=W') rfl (Below.trod laidOut hr hrow h hb hlt)
theorem args_later {W W':World} (hm:Mem (Fz.whole W) [] W'):∀{ts:List TypeId} {vs:List Value} {ds:List (DataW H)} {p:List MemPlace},(∀t∈ts,Tryz.prog.readableRec t=true∧t < Tryz.prog.types.size) →
  DataW.TrodAll enc Tryz.prog W 0 (fun _=>true) true ts vs ds p→(∀x∈p,x.block < W.heap.size)→DataW.TrodAll enc Tryz.prog W' 0 (fun b=>decide (b < W.heap.size)) true ts vs ds p
 | [],_,_,_,_,h,_=>by
  obtain ⟨rfl,rfl,rfl⟩:=trodAll_nil h
  exact h
 | t::ts,_,_,_,hr,h,hlt=>by
  obtain ⟨v,vs,d,ds,p,q,rfl,rfl,rfl,h1,h2⟩:=trodAll_cons h
  exact ⟨p,q,trod_later hm (hr t List.mem_cons_self).1 (hr t List.mem_cons_self).2 h1 (fun x hx=>hlt x (List.mem_append_left _ hx)),
   args_later hm (fun u hu=>hr u (List.mem_cons_of_mem _ hu)) h2 (fun x hx=>hlt x (List.mem_append_right _ hx)),rfl⟩
theorem law_post {fn:Func} {s:ChangeSpec} {apart fresh handsOn:Bool} {W W':World} {args:Array Value} {ds gs:List (DataW H)} {before:List MemPlace}
  (hW:DataW.Whole enc Tryz.prog fn.params.toList s.vars apart W args.toList ds gs before) (hv:s.vars=[]) (hfn:∀gs:List (DataW H),gs=[]→s.fn H (ds++gs)={ results:=[.lit (.bool true)],args:=ds }) (hres:fn.resultTypes=#[4])
  (hr:∀t∈fn.params.toList,Tryz.prog.readableRec t=true∧t < Tryz.prog.types.size) (hm:Mem (Fz.whole W) [] W'):s.post enc Tryz.prog fn apart fresh handsOn false W args (.bool true) W':=by
 have hlt:=hW.lt
 have hW':=hW
 obtain ⟨p,q,hA,hV,rfl,_,_⟩:=hW
 rw [hv] at hV
 obtain ⟨rfl,rfl⟩:=trodVars_none hV
 have hf:=hfn [] rfl
 refine ⟨ds,[],_,[],p,[],hW',?_,?_,?_,?_,fun h=>by cases h⟩
 ·rw [hf,hres]
  exact trodAll_mk1 (shut_bool Tryz.underlying4 true)
 ·rw [hf]
  exact args_later hm hr hA (fun x hx=>hlt x (by simpa using hx))
 ·rw [hf,hv]
  exact rfl
 ·exact World.keptBut_mono (fun _ h=>h.elim) (World.keptBut_none_iff.2 ⟨hm.os,hm.out,old_blocks hm⟩)
theorem agg_of {t:TypeId} {W:World} {base:Nat} {v:Value} {fs:Array Field} (hu:Tryz.prog.underlying t=some (.struct fs)) (h:Value.okWide Tryz.prog W .any base t v):∃cs:List Value,v=.agg cs.toArray:=by
 obtain ⟨cs,rfl,_⟩:=okWide_struct hu h
 exact ⟨cs.toList,by simp⟩
theorem core_arg {W:World} {base:Nat} {v:Value} {d:DataW H} {p:List MemPlace} (hv:Value.okWide Tryz.prog W .any base 27 v) (h:DataW.Trod enc Tryz.prog W 0 (fun _=>true) true 27 v d p):∃cs c,v=.agg (List.toArray cs)∧RCore (Fz.whole W) cs c:=by
 obtain ⟨cs,rfl⟩:=agg_of Tryz.underlying27 hv
 obtain ⟨fuel,hf⟩:=h
 obtain ⟨c,hc⟩:=core_read (enc:=enc) (W:=W) (n:=fuel) (cs:=cs) hf
 exact ⟨cs,c,rfl,hc⟩
theorem nameds_arg {W:World} {base:Nat} {v:Value} {d:DataW H} {p:List MemPlace} (hv:Value.okWide Tryz.prog W .any base 28 v) (h:DataW.Trod enc Tryz.prog W 0 (fun _=>true) true 28 v d p):∃l,SliceOf RNamed (Fz.whole W) 4 v l:=by
 obtain ⟨a,len,cap,rfl⟩:=okWide_slice Tryz.underlying28 hv
 obtain ⟨fuel,hf⟩:=h
 obtain ⟨v,l,e,hl⟩:=nameds_read (enc:=enc) (W:=W) (n:=fuel) (cs:=[.slice a len cap]) hf
 simp only [List.cons.injEq,and_true] at e
 subst e
 exact ⟨l,hl⟩
end
end Go.Proofs.YtgkhcfjooiekkaaGreatDoor

namespace Go.Proofs.YtgkhcfjooiekkaaGreatDoor
open Go.ChangeShapes Go.WideShapes Go.ChangeAt Go.RowKit Go.Sw
set_option maxRecDepth 100000
theorem main_is:Tryz.pinned.checked.prog.mainIs=some (true,"455426ae17f5cebd1e869bbd2c7c15e1646e82f384eadf6ce8080b103650fe81".toList):=by kernel_rfl
theorem looks_is:true=Tryz.prog.looks []:=by kernel_rfl
theorem laidH_plain (W:World):laidMetH Tryz.prog laidAll W=laidMet Tryz.prog laidAll W:=MakeChecks.laidMetH_plain _ _ _ (by kernel_rfl)
theorem laid_met (os:Os) (args:Array Value):laidMet Tryz.prog laidAll ((World.laidAll Tryz.prog os laidAll).forCall (fun _ _=>0) ⟨#[],args,[]⟩).memory:=laidMet_laidAll _ (by kernel_rfl) (by kernel_rfl)
theorem read_of {l:List TypeId} (h:(l.all fun t=>Tryz.prog.readableRec t&&decide (t < Tryz.prog.types.size))=true) {t:TypeId} (ht:t∈l):Tryz.prog.readableRec t=true∧t < Tryz.prog.types.size:=by
 have:=List.all_eq_true.1 h t ht
 simpa using this
section
variable {H:Type} {enc:TypeId×Value→H}
theorem c58:Tryz.prog.cellsOf 58=2:=by kernel_rfl
theorem c40:Tryz.prog.cellsOf 40=3:=by kernel_rfl
end
end Go.Proofs.YtgkhcfjooiekkaaGreatDoor

namespace Go.Sw
open Go.Proofs.Tryz
open Go.Proofs
theorem fo_40_0:z0k Tryz.prog 40 0 0:=z0d runUnderlying40 rfl sizeOf9 (by decide) rfl
theorem fo_40_1:z0k Tryz.prog 40 1 1:=z0d runUnderlying40 rfl sizeOf38 (by decide) rfl
theorem fo_40_2:z0k Tryz.prog 40 2 2:=z0d runUnderlying40 rfl sizeOf3 (by decide) rfl
theorem fo_76_0:z0k Tryz.prog 76 0 0:=z0d runUnderlying76 rfl sizeOf23 (by decide) rfl
theorem fo_76_1:z0k Tryz.prog 76 1 1:=z0d runUnderlying76 rfl sizeOf66 (by decide) rfl
theorem fo_208_0:z0k Tryz.prog 208 0 0:=z0d runUnderlying208 rfl sizeOf25 (by decide) rfl
theorem fo_208_1:z0k Tryz.prog 208 1 1:=z0d runUnderlying208 rfl sizeOf3 (by decide) rfl
set_option maxRecDepth 20000 in
theorem rt_23:RowT Tryz.prog 23 72 2 32:=⟨underlying23,⟨_,_,Tryz.type72,rfl,rfl,rfl,rfl⟩,by decide,by decide⟩
set_option maxRecDepth 20000 in
theorem rt_24:RowT Tryz.prog 24 68 8 136:=⟨underlying24,⟨_,_,Tryz.type68,rfl,rfl,rfl,rfl⟩,by decide,by decide⟩
set_option maxRecDepth 20000 in
theorem rt_63:RowT Tryz.prog 63 66 5 80:=⟨underlying63,⟨_,_,Tryz.type66,rfl,rfl,rfl,rfl⟩,by decide,by decide⟩
set_option maxRecDepth 20000 in
theorem rt_64:RowT Tryz.prog 64 195 7 120:=⟨underlying64,⟨_,_,Tryz.type195,rfl,rfl,rfl,rfl⟩,by decide,by decide⟩
set_option maxRecDepth 20000 in
theorem rt_131:RowT Tryz.prog 131 135 2 40:=⟨underlying131,⟨_,_,Tryz.type135,rfl,rfl,rfl,rfl⟩,by decide,by decide⟩
end Go.Sw
