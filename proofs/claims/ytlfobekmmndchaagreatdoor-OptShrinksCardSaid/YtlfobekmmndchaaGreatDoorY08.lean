import Derived.RangeFuncIn
import Derived.Lib.SliceRun
import Derived.DeepKeys
import Derived.Test.YtlfobekmmndchaaGreatDoorY07
set_option linter.unusedVariables false
set_option linter.unusedSimpArgs false
namespace Go.Sw
open Go.Proofs Go.Proofs.Tryz
set_option maxRecDepth 20000
set_option maxHeartbeats 4000000
def wpB (P:Program) (f:FuncId) (c:Code) (Q:Exit->Act->World->Prop) (a:Act) (w:World):Prop :=
 ∀(b:Frame) (k:List Item) (cs:List Frame),b.roundOf=none->b.fn=f ->
  ∃e a' w',Q e a' w'/\ArrivesIn (Machine.fenced P Fence.wide) P (lone (b.atR a (.code c::k)) cs w) b k cs e a' w'
section
variable {P:Program} {f:FuncId} {Q:Exit->Act->World->Prop} {a:Act} {w:World} {n:Nat} {E:List (Nat×Value)} {D:List Deferred}
theorem jG {c:Code} (h:c.wp P Q a w):wpB P f c Q a w:=fun b k cs d _=>(wpIn_wide (n:=0)).2 h b k cs d trivial (room_wide _)
theorem sqB {x y:Code} (h:∀L:Act->World->Prop,(∀a w,wpB P f y Q a w->L a w)->wpB P f x (Exit.then L Q) a w):wpB P f (Code.seq x y) Q a w:=by
 intro b k cs j hb;obtain ⟨e,i,m,hq,c⟩:=h (fun a w=>wpB P f y Q a w) (fun _ _ h=>h) b (.code y::k) cs j hb;have g:(lone (b.atR a (.code (.seq x y)::k)) cs w).fenced P Fence.wide:=fenced_wide _ _;cases e with
 | normal=>
  obtain ⟨e2,a2,o,n,d⟩:=hq b k cs j hb;exact ⟨e2,a2,o,n,.of_steps (.head g stepR_seq c) d⟩
 | exit id=>exact ⟨_,i,m,hq,.of_steps (.one g stepR_seq) (.pass (x:=.code y) rfl (fun _ _=>.inl (by simp)) c)⟩
 | goto l=>exact ⟨_,i,m,hq,.of_steps (.one g stepR_seq) (.pass (x:=.code y) rfl (fun _ _=>.inl (by simp)) c)⟩
 | ret=>exact ⟨_,i,m,hq,.of_steps (.one g stepR_seq) (.pass (x:=.code y) rfl (fun _ _=>.inl (by simp)) c)⟩
 | panic ch=>exact ⟨_,i,m,hq,.of_steps (.one g stepR_seq) (.pass (x:=.code y) rfl (fun _ _=>.inl (by simp)) c)⟩
 | outgrown=>exact ⟨_,i,m,hq,.of_steps (.one g stepR_seq) (.pass (x:=.code y) rfl (fun _ _=>.inl (by simp)) c)⟩
theorem z0l {id:Nat} {c:Code} (h:wpB P f c (Exit.inBlock id Q) a w):wpB P f (Code.block id c) Q a w:=by
 intro b k cs i hb;have n:(lone (b.atR a (.code (.block id c)::k)) cs w).fenced P Fence.wide:=fenced_wide _ _;obtain ⟨e,m,o,hq,d⟩:=h b (.inBlock id::k) cs i hb;cases e with
 | normal=>exact ⟨.normal,m,o,hq,.head n stepR_block (StepsIn.trans d (.one (fenced_wide _ _) stepR_inBlock))⟩
 | exit id'=>
  by_cases g:id'=id
  ·simp only [Exit.inBlock,g,if_true] at hq
   exact ⟨.normal,m,o,hq,.head n stepR_block (d.1 k (by simp [exitTo,g]))⟩
  ·simp only [Exit.inBlock,g,if_false] at hq
   have:(id==id')=false:=by simp;exact fun h=>g h.symm
   refine ⟨.exit id',m,o,hq,fun k' p=>.head n stepR_block (d.1 k' ?_),fun j=>?_⟩
   ·simp [exitTo,this,p]
   ·rw [i] at j;cases j
 | goto l=>exact ⟨_,m,o,hq,fun k' p=>.head n stepR_block (d.1 k' (by simp [gotoIn,p])),fun j=>by rw [i] at j;cases j⟩
 | ret=>exact ⟨_,m,o,hq,.of_steps (.one n stepR_block) ⟨d.1,fun j=>by rw [i] at j;cases j⟩⟩
 | panic ch=>exact ⟨_,m,o,hq,.of_steps (.one n stepR_block) d⟩
 | outgrown=>exact ⟨_,m,o,hq,.of_steps (.one n stepR_block) d⟩
theorem y7y {fn:Func} {c:Code} {args:Array Value} {R:Ending->World->Prop} (j:P.funcs[f]? = some fn) (hb:fn.body=some c)
  (h:wpB P f c (xU P fn R) { tmps:=args++Array.replicate (fn.ntmps - args.size) undef,defers:=[] } w):Calls P f args w R:=by
 intro cs
 let b:Frame:={ (default:Frame) with fn:=f,kind:=.normal,roundOf:=none }
 have henter:Frame.enter P f args .normal=b.atR { tmps:=args++Array.replicate (fn.ntmps - args.size) undef,defers:=[] } [.code c]:=by
  simp [Frame.enter,Frame.atR,j,hb,b]
 obtain ⟨e,a',w',hq,a⟩:=h b [] cs rfl rfl;rw [<- henter] at a;cases e with
 | normal=>
  obtain ⟨e',w'',fr',i,O,d,hl⟩:=hq { b.atR a' [] with mode:=.returning } cs rfl rfl rfl j rfl;exact ⟨e',w'',fr',i,Comes.of_steps (StepsIn.trans a (.one (fenced_wide _ _) (stepR_end rfl))).steps O,d,hl⟩
 | ret=>
  obtain ⟨todo,g⟩:=a.1 rfl;obtain ⟨e',w'',fr',i,O,d,hl⟩:=hq { b.atR a' todo with mode:=.returning } cs rfl rfl rfl j rfl;exact ⟨e',w'',fr',i,Comes.of_steps g.steps O,d,hl⟩
 | panic chain=>
  obtain ⟨todo,g⟩:=a;obtain ⟨e',w'',fr',i,O,d,hl⟩:=hq { b.atR a' todo with mode:=.panicking chain } cs rfl rfl rfl j rfl;exact ⟨e',w'',fr',i,Comes.of_steps g.steps O,d,hl⟩
 | exit id=>exact hq.elim
 | goto l=>exact hq.elim
 | outgrown=>exact ⟨.outgrown,w',b,hq,a.resolve_left (by simp [b]),rfl,trivial⟩
theorem z7j {fn:Func} {c:Code} {vs:List Value} {R:Ending->World->Prop} (g:P.funcs[f]? = some fn) (hb:fn.body=some c) (i:fn.ntmps=n) (hl:Nat.ble vs.length n=true)
  (k:∀Q:Exit->Act->World->Prop,(∀e a w,xU P fn R e a w->Q e a w)->∀a,EnvR n (aT 0 vs) [] a->wpB P f c Q a w):Calls P f vs.toArray w R:=by
 have hl':vs.length<=n:=by simpa using hl
 refine y7y g hb (k _ (fun _ _ _ h=>h) _ ⟨by simp [i];omega,fun t v j=>?_,rfl⟩);obtain ⟨_,b⟩:=nR vs 0 t v j;simp only [Nat.sub_zero] at b;have d:t < vs.length:=(List.getElem?_eq_some_iff.1 b).1;simp only [List.getElem?_toArray,Array.getElem?_append,List.size_toArray,d,↓reduceIte];exact b
def q9g (P:Program) (l:Nat) (R:Ending->World->Prop) (e:Exit) (a:Act) (w:World):Prop :=
 match e with
 | .panic c=>a.defers=[]/\R (.panicked c) w
 | e=>roundPost P l R e a w
theorem z5f {l m:Nat} {tmps:Array Value} {assign body:Code} {R:Ending->World->Prop} {fd:Func} (B:P.funcs[f]? = some fd)
  (h:assign.wpIn (Fence.wide.inRound l) m P (Exit.then (fun p r=>∃q,(Instr.beginRound l).run P r=.ok () q/\body.wpIn (Fence.wide.inRound l) m P (q9g P l R) p q) (fun _ _ _=>False)) { tmps:=tmps,defers:=[] } w) :
  RoundIn Fence.wide m P l f tmps assign body w R:=by
 refine ⟨trivial,fun c cs C=>?_⟩
 let b:Frame:={ (default:Frame) with fn:=f,kind:=.normal,roundOf:=some l }
 have s:Frame.round l f tmps assign body .normal=b.atR { tmps:=tmps,defers:=[] } [.code assign,.beginRound,.code body]:=by
  simp [Frame.round,Frame.atR,b]
 have i:∀m,Machine.fenced P Fence.wide m:=fun _=>fenced_wide _ _;obtain ⟨e,p,r,hq,d⟩:=h b [.beginRound,.code body] (c::cs) rfl trivial (room_wide _);rw [<- s] at d;cases e with
 | normal=>
  obtain ⟨q,u,n⟩:=hq;have s1:StepsIn (Machine.fenced P Fence.wide) P (lone (b.atR p [.beginRound,.code body]) (c::cs) r) (lone (b.atR p [.code body]) (c::cs) q):=.one (i _) (stepR_beginRound rfl u);obtain ⟨e2,a2,z,j,a⟩:=n b [] (c::cs) rfl trivial (room_wide _);have a:ArrivesIn (Machine.fenced P Fence.wide) P (lone (b.atR p [.code body]) (c::cs) q) b [] (c::cs) e2 a2 z:=a;have d:StepsIn (Machine.fenced P Fence.wide) P (lone (Frame.round l f tmps assign body .normal) (c::cs) w) (lone (b.atR p [.beginRound,.code body]) (c::cs) r):=d;cases e2 with
  | normal=>
   obtain ⟨v,o,g,k⟩:=j;exact ⟨.returned v,o,k,(StepsIn.trans d s1).trans (StepsIn.trans a (.one (i _) (stepR_round_end rfl rfl g)))⟩
  | ret=>
   obtain ⟨v,o,g,k⟩:=j;obtain ⟨y,O⟩:=a.2 rfl;exact ⟨.returned v,o,k,(StepsIn.trans d s1).trans (StepsIn.trans O (.one (i _) (stepR_round_ret rfl rfl g)))⟩
  | exit id=>
   obtain ⟨v,o,g,k⟩:=j;obtain ⟨y,x,O⟩:=a.2 rfl rfl;exact ⟨.returned v,o,k,(StepsIn.trans d s1).trans (StepsIn.trans O (.one (i _) (stepR_round_exit rfl rfl x g)))⟩
  | goto t=>
   obtain ⟨v,o,g,k⟩:=j;obtain ⟨y,x,O⟩:=a.2 rfl rfl;exact ⟨.returned v,o,k,(StepsIn.trans d s1).trans (StepsIn.trans O (.one (i _) (stepR_round_goto rfl rfl x g)))⟩
  | panic chain=>
   obtain ⟨A,k⟩:=j;obtain ⟨todo,O⟩:=a;exact ⟨.panicked chain,z,k,(StepsIn.trans d s1).trans (StepsIn.trans O (.one (i _) (step_leave_panicked ⟨rfl,A,fd,B⟩)))⟩
  | outgrown=>exact j.elim
 | exit id=>exact hq.elim
 | goto t=>exact hq.elim
 | ret=>exact hq.elim
 | panic chain=>exact hq.elim
 | outgrown=>exact hq.elim
theorem y4n {g:Operand} {ps:Array Tmp} {assign body:Code}
  (h:∃(l:Nat) (mark:List Deferred) (u:World) (d:Deferred) (w1':World) (gf:FuncId) (args:Array Value) (x:World),
   (Instr.enterLoop f a.tmps ps assign body none).run P w=.ok (l,mark) u/\(resolve a.eval (rangeCall g l) 0).run P u=.ok d w1' /\
   (invoke d.target d.args).run P w1'=.ok (.enter gf args) x/\Calls P gf args x (rangePost Fence.wide 0 P l Q { a with defers:=mark++a.defers })) :
  wpB P f (Code.rangeFunc g ps assign body) Q a w:=by
 intro b k cs s hb;obtain ⟨l,mark,u,d,w1',gf,args,x,J,r,q,j⟩:=h;rw [<- s,<- hb] at J;have i:∀m,Machine.fenced P Fence.wide m:=fun _=>fenced_wide _ _;have henter:=stepR_rangeFunc (P:=P) (b:=b) (a:=a) (k:=k) (cs:=cs) (w:=w) J r q;obtain ⟨e,C,fr,t,hsteps,A,hleave⟩:=((callsIn_wide (n:=0)).2 j).2 (b.atR { a with defers:=mark++a.defers } (.inRangeFunc l::k)::cs) (room_wide _);cases e with
 | outgrown=>
  obtain ⟨a0,B,hq⟩:=t;exact ⟨.outgrown,a0,B,hq,.inr (Outgrown.of_steps (Steps.one henter) hsteps)⟩
 | returned v=>
  obtain ⟨jump,z,p,y⟩:=t
  have sback:StepsIn (Machine.fenced P Fence.wide) P (lone (b.atR a (.code (.rangeFunc g ps assign body)::k)) cs w) (lone (b.atR { a with defers:=mark++a.defers } ((jump.map Item.code).toList++k)) cs z):=by
   refine .head (i _) henter (StepsIn.trans hsteps (.head (i _) ?_ (.one (i _) (stepR_endRangeFunc p))));rw [<- finish_atR_inRangeFunc l v];exact step_leave_returned hleave
  cases jump with
  | none=>exact ⟨.normal,_,z,y,sback⟩
  | some c=>
   obtain ⟨e',a'',D,hq,o⟩:=y b k cs s trivial (room_wide _);exact ⟨e',a'',D,hq,.of_steps sback o⟩
 | panicked chain=>
  refine ⟨.panic chain,_,C,t,.inRangeFunc l::k,.head (i _) henter (StepsIn.trans hsteps (.one (i _) ?_))⟩;rw [<- Frame.raise_atR];exact step_leave_panicked hleave
end
def aZ {α σ:Type} (step:σ->α->σ×Bool) (bad:σ->α->Bool):σ->List α->Option (σ×Bool)
 | s,[]=>some (s,true)
 | s,x::l=>bif bad s x then none else bif (step s x).2 then aZ step bad (step s x).1 l else some ((step s x).1,false)
theorem z3n {α σ:Type} {step:σ->α->σ×Bool} {bad:σ->α->Bool} {s:σ} {x:α} {l:List α} (h:bad s x=true):aZ step bad s (x::l)=none:=by rw [aZ,h];rfl
theorem z3o {α σ:Type} {step:σ->α->σ×Bool} {bad:σ->α->Bool} {s:σ} {x:α} {l:List α} (hb:bad s x=false) (h:(step s x).2=true):aZ step bad s (x::l)=aZ step bad (step s x).1 l:=by rw [aZ,hb,h];rfl
theorem z7o {α σ:Type} {step:σ->α->σ×Bool} {bad:σ->α->Bool} {s:σ} {x:α} {l:List α} (hb:bad s x=false) (h:(step s x).2=false):aZ step bad s (x::l)=some ((step s x).1,false):=by rw [aZ,hb,h];rfl
structure StepsP {α σ β:Type} (P:Program) (y:Value) (c0:List PanicEntry) (Φ:Fz) (RA:Fz->Value->Value->α->Prop) (items:List α) (step:σ->α->σ×Bool) (bad:σ->α->Bool) (G:Fz->σ->Bool->β->Prop) (KV:σ->Bool->β->List Res) (KP:List Res):Prop where
 fn:∃f fs cs,y=.func f fs cs
 mono:∀Ψ Ψ' s b z,Ψ.Le Ψ'->G Ψ s b z->G Ψ' s b z
 go:∀Ψ s z v1 v2 x K0 w,Φ.Le Ψ->x∈items->RA Ψ v1 v2 x->G Ψ s true z->Mem Ψ (K0++KV s true z) w ->
  Fires P y [v1,v2] w (fun e w'=>(bad s x=true/\e=.panicked c0/\∃Ψ',Ψ.Le Ψ'/\Mem Ψ' (K0++KP) w') ∨
   (bad s x=false/\e=.returned (.bool (step s x).2)/\∃Ψ' z',Ψ.Le Ψ'/\G Ψ' (step s x).1 (step s x).2 z'/\Mem Ψ' (K0++KV (step s x).1 (step s x).2 z') w'))
def j0m {α:Type} (P:Program) (c0:List PanicEntry) (Φ:Fz) (gf:FuncId) (fs cs:List Value) (RA:Fz->Value->Value->α->Prop) (items:List α):Prop :=
 ∀{σ β:Type} (y:Value) (Ψ:Fz) (step:σ->α->σ×Bool) (bad:σ->α->Bool) (G:Fz->σ->Bool->β->Prop) (KV:σ->Bool->β->List Res) (KP:List Res) (s0:σ) (z0:β) (w:World),Φ.Le Ψ->StepsP P y c0 Ψ RA items step bad G KV KP->G Ψ s0 true z0->Mem Ψ (KV s0 true z0) w ->
  Calls P gf (fs++[y]++cs).toArray w (fun e w'=>(aZ step bad s0 items=none/\e=.panicked c0/\∃Ψ',Ψ.Le Ψ'/\Mem Ψ' KP w') ∨
   (∃q v Ψ' z,aZ step bad s0 items=some q/\e=.returned v/\Ψ.Le Ψ'/\G Ψ' q.1 q.2 z/\Mem Ψ' (KV q.1 q.2 z) w'))
section
variable {P:Program} {Φ:Fz} {K:List Res} {w:World}
theorem j6y {l:Nat} {r:Loop} {tmps:Array Value} {j:Jmp} {c bd:Bool} {c0:List PanicEntry} {X:Obj->World->Prop} {Y:World->Prop} {fd:Func} (n:P.funcs[r.fn]? = some fd) (d:r.state=.ready) (g:r.pending=none)
  (y:∀o w,X o w->w.heap[l]? = some o) (k:∀o o' w,X o w->X o' (w.putObj l o'))
  (x:r.assign.wpIn (FO (some l)) 2 P (Exit.then (fun s q=>∃K1,Mem Φ (.blk l (.loop r)::K1) q/\∀m,Mem Φ (.blk l (.loop { r with state:=.busy })::K1) m ->
   r.body.wpIn (FO (some l)) 2 P (fun e a w=>(bd=true/\e=.panic c0/\a.defers=[]/\Y w)∨(bd=false/\z9f j c e/\X (.loop { r with state:=.busy }) w)) s m) (fun _ _ _=>False)) ⟨tmps,[]⟩ w) :
  RoundIn Fence.wide 2 P l r.fn tmps r.assign r.body w (fun e w'=>(bd=true/\e=.panicked c0/\Y w')∨(bd=false/\e=.returned (.bool c)/\X (.loop (nO r j c)) w')):=by
 refine z5f n (Code.wpIn_mono (fun e s q h=>?_) x);cases e with
 | normal=>
  obtain ⟨K1,t,u⟩:=h;have hl:q.heap[l]? = some (.loop r):=t.own _ msQ;refine ⟨_,run_beginRound hl d,?_⟩;refine Code.wpIn_mono (fun e a2 m h=>?_) (u _ (t.putObj (i:=0) (o':=.loop { r with state:=.busy }) rfl));rcases h with ⟨hb,rfl,z,A⟩ | ⟨hb,J,p⟩
  ·exact ⟨z,.inl ⟨hb,rfl,A⟩⟩
  ·have b:m.heap[l]? = some (.loop { r with state:=.busy }):=y _ _ p
   cases c with
   | true=>
    obtain rfl:e=.normal:=J;refine ⟨_,_,run_endRound none b,.inr ⟨hb,rfl,?_⟩⟩;have v:({ ({ r with state:=.busy }:Loop) with state:=.ready,pending:=none }:Loop)=r:=by cases r;simp only at d g;subst d;subst g;rfl
    have f:=k _ (.loop { ({ r with state:=.busy }:Loop) with state:=.ready,pending:=none }) _ p;simp only [nO,cond_true,Option.isNone_none,if_true];rw [v] at f ⊢;exact f
   | false=>
    have f:=k _ (.loop { ({ r with state:=.busy }:Loop) with state:=.done,pending:=some j.code }) _ p;cases j with
    | ret=>
     obtain rfl:e=.ret:=J;exact ⟨_,_,run_endRound (some .ret) b,.inr ⟨hb,rfl,f⟩⟩
    | exit id=>
     obtain rfl:e=.exit id:=J;exact ⟨_,_,run_endRound (some (.exit id)) b,.inr ⟨hb,rfl,f⟩⟩
 | exit id=>exact h.elim
 | goto l=>exact h.elim
 | ret=>exact h.elim
 | panic c=>exact h.elim
 | outgrown=>exact h.elim
theorem sD {α σ β:Type} {n gf f p1 p2:Nat} {E:List (Nat×Value)} {Dd:List Deferred} {a:Act} {g:Operand} {assign body:Code} {Q:Exit->Act->World->Prop} {fs cs:List Value} {fd:Func} {c0:List PanicEntry}
  (RA:Fz->Value->Value->α->Prop) (items:List α) (j:Jmp) (step:σ->α->σ×Bool) (bad:σ->α->Bool) (G:Fz->σ->Bool->β->Prop) (KV:σ->Bool->β->List Res) (KP:List Res) (s0:σ) (z0:β)
  (V:P.funcs[f]? = some fd) (J:EnvR n E Dd a) (hG:G Φ s0 true z0) (N:Mem Φ (KV s0 true z0) w) (hg:ev E g=some (.func (.func gf) fs.toArray cs.toArray)) (hf:∀args w,(callFunc gf args).run P w=.ok (.enter gf args) w) (hp:Nat.blt p1 n=true) (W:Nat.blt p2 n=true)
  (D:∀Ψ Ψ' s b z,Ψ.Le Ψ'->G Ψ s b z->G Ψ' s b z)
  (hr:∀Ψ s z v1 v2 x l o1 o2 K' a w,Φ.Le Ψ->x∈items->RA Ψ v1 v2 x->G Ψ s true z->EnvR n ((p2,v2)::(p1,v1)::E) [] a->Mem Ψ (.blk l o1::(KV s true z++K')) w ->
   assign.wpIn (FO (some l)) 2 P (Exit.then (fun a1 B=>∃K1,Mem Ψ (.blk l o1::K1) B/\∀w2,Mem Ψ (.blk l o2::K1) w2 ->
    body.wpIn (FO (some l)) 2 P (fun e a w=>(bad s x=true/\e=.panic c0/\a.defers=[]/\∃Ψ',Ψ.Le Ψ'/\Mem Ψ' (.blk l o2::(KP++K')) w) ∨
     (bad s x=false/\z9f j (step s x).2 e/\∃Ψ' z',Ψ.Le Ψ'/\G Ψ' (step s x).1 (step s x).2 z'/\Mem Ψ' (.blk l o2::(KV (step s x).1 (step s x).2 z'++K')) w)) a1 w2) (fun _ _ _=>False)) a w)
  (hc:j0m P c0 Φ gf fs cs RA items)
  (kn:∀u,aZ step bad s0 items=some (u,true)->∀Dk Ψ z a w,Φ.Le Ψ->G Ψ u true z->EnvR n E ({ target:=.collected Dk,args:=#[] }::Dd) a->Mem Ψ (.blk Dk (.deferred (some []))::KV u true z) w->Q .normal a w)
  (kj:∀u,aZ step bad s0 items=some (u,false)->∀Dk Ψ z a w,Φ.Le Ψ->G Ψ u false z->EnvR n E ({ target:=.collected Dk,args:=#[] }::Dd) a->Mem Ψ (.blk Dk (.deferred (some []))::KV u false z) w->Q j.ex a w)
  (kp:aZ step bad s0 items=none->∀Dk Ψ a w,Φ.Le Ψ->EnvR n E ({ target:=.collected Dk,args:=#[] }::Dd) a->Mem Ψ (.blk Dk (.deferred (some []))::KP) w->Q (.panic c0) a w):wpB P f (Code.rangeFunc g #[p1,p2] assign body) Q a w:=by
 refine y4n ?_
 let r:Loop:={ state:=.ready,pending:=none,fn:=f,tmps:=a.tmps,params:=#[p1,p2],assign,body,defers:=w.heap.size }
 generalize H:((w.alloc (.deferred (some []))).alloc (.loop r))=B
 have A:Mem Φ (.blk (w.heap.size+1) (.loop r)::.blk w.heap.size (.deferred (some []))::KV s0 true z0) B:=by
  have y:=N.push (.deferred (some []));have t:=y.push (.loop r);have K:({ w with heap:=w.heap.push (.deferred (some [])) }:World).heap.size=w.heap.size+1:=Array.size_push _;rw [K] at t;rw [<- H];exact t
 have R:EnvR n E [] ⟨r.tmps,[]⟩:=⟨J.size,J.env,rfl⟩;have M:EnvR n E ({ target:=.collected w.heap.size,args:=#[] }::Dd) { a with defers:=[{ target:=.collected w.heap.size,args:=#[] }]++a.defers }:=⟨J.size,J.env,by simp [J.defs]⟩;generalize hL:w.heap.size+1=l at *;generalize hD:w.heap.size=Dk at *;have C:=hc (.func (.yield l) #[] #[]) Φ step bad G (fun s b z=>.blk l (.loop (nO r j b))::.blk Dk (.deferred (some []))::KV s b z) (.blk l (.loop { r with state:=.busy })::.blk Dk (.deferred (some []))::KP) s0 z0 B (Fz.Le.refl _) ⟨⟨_,_,_,rfl⟩,D,fun Ψ s z v1 v2 x K0 w k hx Z S N=>.inr ⟨l,rfl,?_⟩⟩ hG A
 ·refine ⟨l,[{ target:=.collected Dk,args:=#[] }],B,{ target:=.fn (.func gf) cs.toArray,args:=(fs++[Value.func (.yield l) #[] #[]]).toArray },B,gf,(fs++[Value.func (.yield l) #[] #[]]++cs).toArray,B,?_,?_,?_,?_⟩
  ·rw [run_enterLoop_outer]
   subst hD;subst hL;rw [<- H]
  ·have y:=J.ev hg
   have t:a.eval (.const (.func (.yield l) #[] #[]))=.func (.yield l) #[] #[]:=rfl;simp only [resolve,Sem.run_bind,y,t,List.map_toArray,List.map_cons,List.map_nil]
   simp [Deferred.ofValue]
  ·have:=hf (fs++[Value.func (.yield l) #[] #[]]++cs).toArray B
   simp only [invoke]
   simpa using this
  ·refine C.mono fun e w3 h=>?_
   rcases h with ⟨hq,rfl,Ψ,k,m⟩ | ⟨q,v,Ψ,z,hq,rfl,k,F,m⟩
   ·exact kp hq _ _ _ _ k M m.tail
   ·obtain ⟨u,b2⟩:=q
    have hl:w3.heap[l]? = some (.loop (nO r j b2)):=m.own _ msQ;cases b2 with
    | true=>
     refine ⟨_,_,run_endLoop hl (by intro h;cases h),?_⟩;exact kn u hq _ _ z _ _ k F M (m.putObj (i:=0) rfl).tail
    | false=>
     have hk:=kj u hq _ _ z _ _ k F M (m.putObj (i:=0) (o':=.loop { nO r j false with state:=.exhausted }) rfl).tail;refine ⟨_,_,run_endLoop hl (by intro h;cases h),?_⟩;cases j with
     | ret=>exact wpIn_ret hk
     | exit id=>exact wpIn_exit hk
 ·have A:Mem Ψ (.blk l (.loop r)::(KV s true z++(.blk Dk (.deferred (some []))::K0))) w:=N.perm (List.perm_middle.trans (List.Perm.cons _ (List.perm_middle.trans ((List.Perm.cons _ List.perm_append_comm).trans List.perm_middle.symm))))
  have hl:w.heap[l]? = some (.loop r):=A.own _ msQ;refine ⟨r.fn,(r.tmps.setIfInBounds p1 v1).setIfInBounds p2 v2,r.assign,r.body,?_,?_⟩
  ·rw [run_yield hl rfl]
   simp [r]
  ·have T:EnvR n ((p1,v1)::E) [] ⟨r.tmps.setIfInBounds p1 v1,[]⟩:=R.put (d:=p1) hp
   have U:EnvR n ((p2,v2)::(p1,v1)::E) [] ⟨(r.tmps.setIfInBounds p1 v1).setIfInBounds p2 v2,[]⟩:=T.put (d:=p2) W
   have h:=j6y (P:=P) (Φ:=Ψ) (l:=l) (r:=r) (j:=j) (c:=(step s x).2) (bd:=bad s x) (c0:=c0) (tmps:=(r.tmps.setIfInBounds p1 v1).setIfInBounds p2 v2) (fd:=fd) (Y:=fun w=>∃Ψ',Ψ.Le Ψ'/\Mem Ψ' (.blk l (.loop { r with state:=.busy })::(KP++(.blk Dk (.deferred (some []))::K0))) w)
    (X:=fun o w=>∃Ψ' z',Ψ.Le Ψ'/\G Ψ' (step s x).1 (step s x).2 z'/\Mem Ψ' (.blk l o::(KV (step s x).1 (step s x).2 z'++(.blk Dk (.deferred (some []))::K0))) w) V rfl rfl
    (fun o w h=>by obtain ⟨_,_,_,_,h⟩:=h;exact h.own _ msQ)
    (fun o o' w h=>by obtain ⟨Ψ',z',y,t,h⟩:=h;exact ⟨Ψ',z',y,t,h.putObj (i:=0) rfl⟩)
    (hr Ψ s z v1 v2 x l _ _ _ _ _ k hx Z S U A)
   have p:∀(o:Res) (l2:List Res),(o::(l2++(.blk Dk (.deferred (some []))::K0))).Perm (K0++(o::.blk Dk (.deferred (some []))::l2)):=fun o l2=>(List.Perm.cons _ ((List.perm_middle.trans (List.Perm.cons _ List.perm_append_comm)).trans List.perm_middle.symm)).trans List.perm_middle.symm;refine h.mono fun e w' hh=>?_;rcases hh with ⟨I,y,Ψ',t,L⟩ | ⟨I,y,Ψ',z',t,K,L⟩
   ·exact .inl ⟨I,y,Ψ',t,L.perm (p _ _)⟩
   ·exact .inr ⟨I,y,Ψ',z',t,K,L.perm (p _ _)⟩
end
section
variable {P:Program} {n m:Nat} {E:List (Nat×Value)} {D:List Deferred} {a:Act} {w:World} {ops:Array Oper} {rest:List Oper} {Q:Exit->Act->World->Prop} {r:Option Nat} {d:Nat} {op:Op} {ty:TypeId} {pos:String} {aft:Array Edge}
theorem z6b {y:Operand} {xs:Array Operand} {vs:List Value} {ts:Array TypeId} {yv u:Value} {c0:List PanicEntry} {JJ JP:World->Prop} {Kn:Value->World->Prop} {Qp:List PanicEntry->World->Prop} {dst:Option Tmp} {g:Option (Nat×Bool)} (J:EnvR n E D a) (h:ev E y=some yv) (d:evs E xs.toList=some vs)
  (p:Fires P yv vs w (fun e w'=>(JP w'/\e=.panicked c0)∨(JJ w'/\e=.returned u))) (k:∀w',JJ w'->Kn u w') (kp:∀w',JP w'->Qp c0 w'):Oper.effR P ⟨dst,.call { callee:=.value y,args:=xs,argTypes:=ts },ty,pos,aft,g⟩ a w Kn Qp:=by
 unfold Oper.effR;rcases p with ⟨f,fs,cs,rfl,o,m⟩ | ⟨l,rfl,fn,tmps,assign,body,i,j⟩
 ·have c:(execOp a.eval ⟨dst,.call { callee:=.value y,args:=xs,argTypes:=ts },ty,pos,aft,g⟩).run P w=.ok (.enter f (fs++vs++cs).toArray) w:=by
   simp only [execOp,resolve,Sem.run_bind,J.evsA d,J.ev h,Deferred.ofValue];have:=o (fs++vs++cs).toArray w;simp only [invoke]
   simpa [Sem.run_bind,Result.andThen] using this
  rw [c];refine m.mono fun e w' he'=>?_;rcases he' with ⟨b,rfl⟩ | ⟨b,rfl⟩
  ·exact kp _ b
  ·exact k _ b
 ·have c:(execOp a.eval ⟨dst,.call { callee:=.value y,args:=xs,argTypes:=ts },ty,pos,aft,g⟩).run P w=.ok (.round l fn tmps assign body) w:=by
   simp only [execOp,resolve,Sem.run_bind,J.evsA d,J.ev h,Deferred.ofValue]
   simp [invoke,Sem.run_bind,Result.andThen,i]
  rw [c];refine j.mono fun e w' he'=>?_;rcases he' with ⟨b,rfl⟩ | ⟨b,rfl⟩
  ·exact kp _ b
  ·exact k _ b
theorem y8u {o:Oper} (J:EnvR n E D a) (i:o.dst=some d) (b:Nat.blt d n=true) (j:o.guard=none) (e:∀c,o.op≠.defer c)
  (h:Oper.effR P o a w (fun v w'=>∀a,EnvR n ((d,v)::E) D a->wpListIn (FO r) m P ops Q rest a w') (fun c w'=>Q (.panic c) a w')):wpListIn (FO r) m P ops Q (o::rest) a w:=by
 refine wpListIn_plain j fun L f=>cB (fun _=>e) (xB h (fun v w' k=>f _ _ ?_) (fun c w' g=>g));rw [i];exact k _ (J.put b)
theorem in_stP {o:Oper} (J:EnvR n E D a) (f:o.dst=some d) (b:Nat.blt d n=true) (g:o.guard=none) (e:∀c,o.op≠.defer c)
  (h:Oper.eff P o a w (fun v w'=>∀a,EnvR n ((d,v)::E) D a->wpListIn (FO r) m P ops Q rest a w') (fun c w'=>Q (.panic c) a w')):wpListIn (FO r) m P ops Q (o::rest) a w :=
 y8u J f b g e (Oper.eff.toR h)
end
theorem StepsP.fire {α σ β:Type} {P:Program} {y:Value} {c0:List PanicEntry} {Φ:Fz} {RA:Fz->Value->Value->α->Prop} {items:List α} {step:σ->α->σ×Bool} {bad:σ->α->Bool} {G:Fz->σ->Bool->β->Prop} {KV:σ->Bool->β->List Res} {KP:List Res}
  (h:StepsP P y c0 Φ RA items step bad G KV KP) {Ψ:Fz} {s:σ} {z:β} {v1 v2:Value} {x:α} {K0:List Res} {w:World} (hl:Φ.Le Ψ) (f:x∈items) (ra:RA Ψ v1 v2 x) (hG:G Ψ s true z) (N:Mem Ψ (K0++KV s true z) w) :
  Fires P y [v1,v2] w (fun e w'=>((bad s x=true/\∃Ψ',Ψ.Le Ψ'/\Mem Ψ' (K0++KP) w')/\e=.panicked c0)∨((bad s x=false/\∃Ψ' z',Ψ.Le Ψ'/\G Ψ' (step s x).1 (step s x).2 z'/\Mem Ψ' (K0++KV (step s x).1 (step s x).2 z') w')/\e=.returned (.bool (step s x).2))) :=
 (h.go Ψ s z v1 v2 x K0 w hl f ra hG N).mono fun e w' d=>by
  rcases d with ⟨a,b,c⟩ | ⟨a,b,c⟩
  ·exact .inl ⟨⟨a,c⟩,b⟩
  ·exact .inr ⟨⟨a,c⟩,b⟩
def vS {α:Type} (l:List α):Nat->List (Nat×α)
 | 0=>[]
 | m+1=>match l[m]? with | some x=>(m,x)::vS l m | none=>vS l m
theorem kW {α:Type} {l:List α} {m:Nat} {x:α} (h:l[m]? = some x):vS l (m+1)=(m,x)::vS l m:=by rw [vS,h]
theorem z4i {α:Type} {l:List α} {m:Nat} {x:α} (h:l[m]? = some x):∀{k:Nat},m < k->(m,x)∈vS l k
 | 0,a=>absurd a (Nat.not_lt_zero _)
 | k+1,a=>by
  by_cases e:m=k
  ·subst e;rw [kW h];exact msQ
  ·have:=z4i h (k:=k) (by omega)
   rw [vS];split
   ·exact mcQ _ this
   ·exact this
theorem gG {α:Type} {l:List α}:∀{k:Nat} {p:Nat×α},p∈vS l k->l[p.1]? = some p.2
 | 0,p,h=>by cases h
 | k+1,p,h=>by
  rw [vS] at h;split at h
  ·rename_i x a
   rcases List.mem_cons.1 h with rfl | h
   ·exact a
   ·exact gG h
  ·exact gG h
theorem y5a {α:Type} (l:List α):∀k,k<=l.length->(vS l k).map Prod.snd=(l.take k).reverse
 | 0,_=>by simp [vS]
 | k+1,h=>by
  have a:l[k]? = some l[k]:=List.getElem?_eq_getElem (by omega);rw [kW a,List.map_cons,y5a l k (by omega),jJ a,List.reverse_append];rfl
def RBk (Ψ:Fz) (v1 v2:Value) (x:Nat×TE):Prop:=v1=.int .i64 x.1/\RPtE Ψ [v2] x.2
theorem Steps.goM {α σ β:Type} {P:Program} {y:Value} {Φ:Fz} {RA:Fz->List Value->α->Prop} {items:List α} {step:σ->α->σ×Bool} {G:Fz->σ->Bool->β->Prop} {KV:σ->Bool->β->List Res}
  (h:Steps P y Φ RA items step G KV) {Ψ:Fz} {s:σ} {z:β} {c:List Value} {x:α} (A:List Res) {K1:List Res} {w:World} (hl:Φ.Le Ψ) (j:x∈items) (a:RA Ψ c x) (hG:G Ψ s true z) (N:Mem Ψ (A++(KV s true z++K1)) w) :
  Fires P y [.agg c.toArray] w (fun e w'=>e=.returned (.bool (step s x).2)/\∃Ψ' z',Ψ.Le Ψ'/\G Ψ' (step s x).1 (step s x).2 z'/\Mem Ψ' (A++(KV (step s x).1 (step s x).2 z'++K1)) w'):=by
 refine (h.go Ψ s z c x (A++K1) w hl j a hG (N.perm ?_)).mono fun e w' i=>?_
 ·rw [List.append_assoc];exact List.Perm.append_left A List.perm_append_comm
 ·obtain ⟨b,Ψ',z',d,f,g⟩:=i
  exact ⟨b,Ψ',z',d,f,g.perm (by rw [List.append_assoc];exact List.Perm.append_left A List.perm_append_comm)⟩
section
variable {σ:Type} {step:σ->Rw->σ×Bool} {s0 s:σ} {f:FnS} {i:Nat} {y:Fnd} {r:Nat} {t:TE}
theorem win_yes (c:zL step s0 (jD f i y)=zL step s (jZ f i y r)) (a:1<=r) (b:r<=5) (h:xQ (f.try5 (r:Int) y.x y.up y.path)=.ok t) (hb:(step s ⟨(r:Int),i,y.path,0⟩).2=true) :
  zL step s0 (jD f i y)=zL step (step s ⟨(r:Int),i,y.path,0⟩).1 (jZ f i y (r+1)):=by
 rw [c,gC a b (zS h),z3q hb]
theorem x4y (c:zL step s0 (jD f i y)=zL step s (jZ f i y r)) (a:1<=r) (b:r<=5) (h:xQ (f.try5 (r:Int) y.x y.up y.path)=.ok t) (hb:(step s ⟨(r:Int),i,y.path,0⟩).2=false) :
  zL step s0 (jD f i y)=((step s ⟨(r:Int),i,y.path,0⟩).1,false):=by
 rw [c,gC a b (zS h),uO hb]
theorem win_no {c:Unit} (d:zL step s0 (jD f i y)=zL step s (jZ f i y r)) (a:1<=r) (b:r<=5) (h:xQ (f.try5 (r:Int) y.x y.up y.path)=.error c) :
  zL step s0 (jD f i y)=zL step s (jZ f i y (r+1)):=by
 rw [d,y9v a b (yK h)]
theorem win_end (a:zL step s0 (jD f i y)=zL step s (jZ f i y r)) (h:¬r<=5):zL step s0 (jD f i y)=(s,true):=by
 rw [a,y4m f i y h,zL]
end
theorem y7j {T:Trc} {F:TFn} {i:Nat} (a:T.funs[i]? = some F):qS T i=(zF [] [] F.body).flatMap (jD ⟨T,F⟩ i):=by
 unfold qS z8e;rw [a];rfl
theorem j0e {T:Trc} {F:TFn} {i r:Nat} {y:Fnd} {t:TE} (e:T.funs[i]? = some F) (f:y∈zF [] [] F.body) (c:1<=r) (d:r<=5) (h:xQ (FnS.try5 ⟨T,F⟩ (r:Int) y.x y.up y.path)=.ok t):(⟨(r:Int),i,y.path,0⟩:Rw)∈qS T i:=by
 rw [y7j e];refine List.mem_flatMap.2 ⟨y,f,?_⟩;have b:(⟨(r:Int),i,y.path,0⟩:Rw)∈jZ ⟨T,F⟩ i y r:=by rw [gC c d (zS h)];exact msQ
 unfold jZ at b;obtain ⟨q,hq,a⟩:=List.mem_map.1 b;refine List.mem_map.2 ⟨q,?_,a⟩;rw [List.mem_filter] at hq ⊢;exact ⟨List.mem_of_mem_drop hq.1,hq.2⟩
theorem y3i {σ:Type} {step:σ->Rw->σ×Bool} {T:Trc} {F:TFn} {i:Nat} (a:T.funs[i]? = some F) (s:σ):zL step s (qS T i)=zL (fun s x=>zL step s (jD ⟨T,F⟩ i x)) s (zF [] [] F.body):=by
 rw [y7j a];exact z3p step _ _ s
theorem Mem.rotM {Φ:Fz} {w:World} {A M V D:List Res} (h:Mem Φ (A++((M++V)++D)) w):Mem Φ (A++(V++(M++D))) w:=h.perm (List.Perm.append_left A (by
 rw [<- List.append_assoc];exact (List.perm_append_comm).append_right D))
theorem Mem.unrotM {Φ:Fz} {w:World} {A M V D:List Res} (h:Mem Φ (A++(V++(M++D))) w):Mem Φ (A++((M++V)++D)) w:=h.perm (List.Perm.append_left A (by
 rw [<- List.append_assoc];exact (List.perm_append_comm).append_right D))
theorem j4i:∀(e:TE) {p:List Int} {up:List TE} {y:Fnd},FitE p up e->y∈zF p up e->FitE y.path y.up y.x:=fun e=>by
 refine pH (C:=fun e=>∀{p:List Int} {up:List TE} {y:Fnd},FitE p up e->y∈zF p up e->FitE y.path y.up y.x) (fun e f hb p up y d g=>?_) e;rcases wS g with rfl | ⟨j,a,b,c⟩ | ⟨j,x,b,c⟩
 ·exact d
 ·exact f a (mgQ b) (d.arm (mgQ b)) c
 ·exact hb x (mgQ b) (d.rest (mgQ b)) c
theorem q9a {e:TE} {y:Fnd} (h:FitE [] [] e) (b:y∈zF [] [] e):y.path.length * 8<=140737488355328:=by
 have a:=j4i e h b;have:=a.1;have:=a.2;omega
theorem ROp.i64 {Φ:Fz} {p:Addr} {T:Trc} (h:ROp Φ p T) {i:Nat} (hi:i < T.funs.length):I64 ((i:Nat):Int):=by
 obtain ⟨cs,m,_,a,_⟩:=h.ex;obtain ⟨s,t,u,v,_,_,_,_,b,_⟩:=a;obtain ⟨p,c,_,d,_⟩:=b.form (by decide);unfold I64;omega
theorem rul_lt {r:Nat} (a:1<=r) (b:r<=5):(r:Int)=1∨(r:Int)=2∨(r:Int)=3∨(r:Int)=4∨(r:Int)=5:=by omega
def gB (T:Trc) (i:Nat):List Rw:=((List.range T.funs.length).drop i).flatMap (qS T)
def kQ (T:Trc) (i:Nat):List Rw:=(((List.range T.funs.length).drop i).filter (xY T)).map fun (i:Nat)=>⟨7,(i:Int),[],0⟩
theorem q5f (T:Trc):jC T=gB T 0++kQ T 0:=by
 unfold gB kQ;rw [List.drop_zero];rfl
theorem aB {n i:Nat} (h:i < n):(List.range n).drop i=i::(List.range n).drop (i+1):=by
 rw [List.drop_eq_getElem_cons (by rw [List.length_range];exact h),List.getElem_range]
theorem tO {n i:Nat} (h:¬i < n):(List.range n).drop i=[]:=List.drop_of_length_le (by rw [List.length_range];omega)
section
variable {σ:Type} {step:σ->Rw->σ×Bool} {s0 s s1:σ} {T:Trc} {i:Nat}
theorem q9v (a:zL step s0 (jC T)=zL step s (gB T i++kQ T 0)) (hi:i < T.funs.length) (hb:(zL step s (qS T i)).2=true):zL step s0 (jC T)=zL step (zL step s (qS T i)).1 (gB T (i+1)++kQ T 0):=by
 rw [a,gB,aB hi,List.flatMap_cons,List.append_assoc,aC,hb];rfl
theorem q9w (a:zL step s0 (jC T)=zL step s (gB T i++kQ T 0)) (hi:i < T.funs.length) (hb:(zL step s (qS T i)).2=false):zL step s0 (jC T)=((zL step s (qS T i)).1,false):=by
 rw [a,gB,aB hi,List.flatMap_cons,List.append_assoc,aC,hb];rfl
theorem q9s (a:zL step s0 (jC T)=zL step s (gB T i++kQ T 0)) (hi:¬i < T.funs.length):zL step s0 (jC T)=zL step s (kQ T 0):=by
 rw [a,gB,tO hi];rfl
theorem q7i (a:zL step s0 (jC T)=zL step s (kQ T i)) (hi:i < T.funs.length) (hb:xY T i=false):zL step s0 (jC T)=zL step s (kQ T (i+1)):=by
 rw [a,kQ,aB hi,List.filter_cons,if_neg (by rw [hb];simp)];rfl
theorem z9b (hi:i < T.funs.length) (hb:xY T i=true):kQ T i=⟨7,(i:Int),[],0⟩::kQ T (i+1):=by
 rw [kQ,aB hi,List.filter_cons,if_pos hb];rfl
theorem q7h (a:zL step s0 (jC T)=zL step s (kQ T i)) (hi:i < T.funs.length) (hb:xY T i=true) (O:(step s ⟨7,(i:Int),[],0⟩).2=true):zL step s0 (jC T)=zL step (step s ⟨7,(i:Int),[],0⟩).1 (kQ T (i+1)):=by
 rw [a,z9b hi hb,z3q O]
theorem q7j (a:zL step s0 (jC T)=zL step s (kQ T i)) (hi:i < T.funs.length) (hb:xY T i=true) (O:(step s ⟨7,(i:Int),[],0⟩).2=false):zL step s0 (jC T)=((step s ⟨7,(i:Int),[],0⟩).1,false):=by
 rw [a,z9b hi hb,uO O]
theorem j5i (a:zL step s0 (jC T)=zL step s (kQ T i)) (hi:¬i < T.funs.length):zL step s0 (jC T)=(s,true):=by
 rw [a,kQ,tO hi];rfl
end
theorem q9t {T:Trc} {i:Nat} {x:Rw} (hi:i < T.funs.length) (h:x∈qS T i):x∈jC T:=List.mem_append_left _ (List.mem_flatMap.2 ⟨i,List.mem_range.2 hi,h⟩)
theorem q9u {T:Trc} {i:Nat} (hi:i < T.funs.length) (h:xY T i=true):(⟨7,(i:Int),[],0⟩:Rw)∈jC T:=List.mem_append_right _ (List.mem_map.2 ⟨i,List.mem_filter.2 ⟨List.mem_range.2 hi,h⟩,rfl⟩)
def z8v (n:Nat) (s:List Rw) (x:Rw):List Rw×Bool:=if s.length=n then (s,false) else (s++[x],true)
theorem q4q (n:Nat):∀(l s:List Rw),s.length<=n->(zL (z8v n) s l).1=s++l.take (n - s.length)
 | [],s,_=>by rw [zL,List.take_nil,List.append_nil]
 | x::l,s,h=>by
  by_cases a:s.length=n
  ·rw [uO (by unfold z8v;rw [if_pos a]),show (z8v n s x).1=s from by unfold z8v;rw [if_pos a],a,Nat.sub_self,List.take_zero,List.append_nil]
  ·rw [z3q (by unfold z8v;rw [if_neg a]),show (z8v n s x).1=s++[x] from by unfold z8v;rw [if_neg a]]
   rw [q4q n l (s++[x]) (by rw [laQ];simp;omega),laQ,List.append_assoc,show n - s.length=(n - (s.length+[x].length))+1 from by simp;omega,List.take_succ_cons];rfl
theorem sM (T:Trc):(zL (z8v 500) [] (jC T)).1=qM T:=by rw [q4q 500 _ _ (by simp)];rfl
theorem j9c {s:List Rw} {x:Rw} (h:s.length=500):z8v 500 s x=(s,false):=if_pos h
theorem j9d {s:List Rw} {x:Rw} (h:¬s.length=500):z8v 500 s x=(s++[x],true):=if_neg h
def capG (Ψ:Fz) (s:List Rw) (_:Bool) (z:Value×List Value):Prop:=Chunks (RRw Ψ) 4 z.2 s/\s.length<=500
theorem capG.mono {Ψ Ψ':Fz} {s:List Rw} {b:Bool} {z:Value×List Value} (h:capG Ψ s b z) (hl:Ψ.Le Ψ'):capG Ψ' s b z:=⟨h.1.mono fun _ _ h=>RRw.mono _ _ _ _ hl h,h.2⟩
theorem capG.zero {Ψ:Fz} {v:Value}:capG Ψ [] true (v,[]):=⟨rfl,Nat.zero_le _⟩
inductive PlanT where
 | q (i:Nat) (p:PlanT)
 | e3 (i j k:Nat) (p q r:PlanT)
 | e4 (i j k m:Nat) (p q r s:PlanT)
 | pl (p:Plan)
def pK (md:Region.Mode) (ops:Array Oper) (kd:List Nat):PlanT->Array Bool->Bool
 | .pl p,l=>cS md ops kd p l
 | .q i p,l=>(Region.ready md ops l).contains i&&Region.free md ops l i&&yQ kd i != 0&&pK md ops kd p (l.setIfInBounds i true)
 | .e3 i j k p q r,l=>Region.ready md ops l==[i,j,k]&&[i,j,k].all (yQ kd ·==0)&&pK md ops kd p (l.setIfInBounds i true)&&pK md ops kd q (l.setIfInBounds j true)&&pK md ops kd r (l.setIfInBounds k true)
 | .e4 i j k m p q r s,l=>Region.ready md ops l==[i,j,k,m]&&[i,j,k,m].all (yQ kd ·==0)&&pK md ops kd p (l.setIfInBounds i true)&&pK md ops kd q (l.setIfInBounds j true)&&pK md ops kd r (l.setIfInBounds k true)&&pK md ops kd s (l.setIfInBounds m true)
def PlanT.len:PlanT->Nat
 | .pl p=>p.len
 | .q _ p=>p.len+1
 | .e3 _ _ _ p _ _=>p.len+1
 | .e4 _ _ _ _ p _ _ _=>p.len+1
def PlanT.even:PlanT->Bool
 | .pl p=>p.even
 | .q _ p=>p.even
 | .e3 _ _ _ p u r=>p.even&&u.even&&r.even&&p.len==u.len&&p.len==r.len
 | .e4 _ _ _ _ p u r s=>p.even&&u.even&&r.even&&s.even&&p.len==u.len&&p.len==r.len&&p.len==s.len
section
variable {P:Program} {md:Region.Mode} {ops:Array Oper} {B:World->Prop} {kd:List Nat} {Qp:List PanicEntry->World->Prop}
def vP (P:Program) (md:Region.Mode) (ops:Array Oper) (B:World->Prop) (kd:List Nat) (Qp:List PanicEntry->World->Prop) (Q:Act->World->Prop):PlanT->Act->World->Prop
 | .pl p,a,w=>zU P md ops B kd Qp Q p a w
 | .q i p,a,w=>vR P md ops B kd Qp i (vP P md ops B kd Qp Q p) a w
 | .e3 i j k p q r,a,w=>vR P md ops B kd Qp i (vP P md ops B kd Qp Q p) a w/\vR P md ops B kd Qp j (vP P md ops B kd Qp Q q) a w/\vR P md ops B kd Qp k (vP P md ops B kd Qp Q r) a w
 | .e4 i j k m p q r s,a,w=>vR P md ops B kd Qp i (vP P md ops B kd Qp Q p) a w/\vR P md ops B kd Qp j (vP P md ops B kd Qp Q q) a w/\vR P md ops B kd Qp k (vP P md ops B kd Qp Q r) a w/\vR P md ops B kd Qp m (vP P md ops B kd Qp Q s) a w
theorem xC {Q:Act->World->Prop} (O:Region.noSelect ops=true):∀(p:PlanT) (listed:Array Bool) (a:Act) (w:World),p.even=true->pK md ops kd p listed=true ->
  vP P md ops B kd Qp Q p a w->z7c P md ops B kd Qp Q p.len listed a w
 | .pl p,l,a,w,b,c,h=>xR O p l a w b c h
 | .q i p,l,a,w,b,c,h=>by
  simp only [pK,baQ,List.contains_iff_mem,bne_iff_ne,ne_eq] at c;obtain ⟨⟨⟨e,H⟩,D⟩,c⟩:=c;obtain ⟨_,o,u,_⟩:=mem_ready.1 e;unfold vP vR at h;simp only [u] at h;by_cases y:Region.wanted o (yielded ops a.tmps)=true
  ·rw [if_pos y,if_neg D] at h
   obtain ⟨v,n,t⟩:=h;exact nL u (Region.noSelect_spec O) D _ _ _ _ (Region.free_spec u H) e (.inl ⟨y,n⟩) (xC O p _ _ _ b c t)
  ·rw [if_neg y] at h
   exact nL u (Region.noSelect_spec O) D _ _ _ _ (Region.free_spec u H) e (.inr ⟨by simpa using y,rfl⟩) (xC O p _ _ _ b c h)
 | .e3 i j k p q r,l,a,w,b,c,h=>by
  simp only [pK,baQ,beq_iff_eq] at c;obtain ⟨⟨⟨⟨e,_⟩,c⟩,hq⟩,f⟩:=c;simp only [PlanT.even,baQ,beq_iff_eq] at b;obtain ⟨⟨⟨⟨z,e2⟩,e3⟩,F⟩,G⟩:=b;obtain ⟨n,t,C⟩:=h;simp only [PlanT.len,z7c];refine ⟨fun A=>(by rw [A] at e;cases e),fun x g=>?_⟩;rw [e] at g;simp only [List.mem_cons,List.not_mem_nil,or_false] at g;rcases g with rfl | rfl | rfl
  ·exact kP (fun a' w' _ d=>xC O p _ _ _ z c d) n
  ·exact kP (fun a' w' _ d=>by rw [F];exact xC O q _ _ _ e2 hq d) t
  ·exact kP (fun a' w' _ d=>by rw [G];exact xC O r _ _ _ e3 f d) C
 | .e4 i j k m p q r s,l,a,w,b,c,h=>by
  simp only [pK,baQ,beq_iff_eq] at c;obtain ⟨⟨⟨⟨⟨e,_⟩,c⟩,hq⟩,f⟩,E⟩:=c;simp only [PlanT.even,baQ,beq_iff_eq] at b;obtain ⟨⟨⟨⟨⟨⟨z,e2⟩,e3⟩,e4⟩,F⟩,G⟩,K⟩:=b;obtain ⟨n,t,C,I⟩:=h;simp only [PlanT.len,z7c];refine ⟨fun A=>(by rw [A] at e;cases e),fun x g=>?_⟩;rw [e] at g;simp only [List.mem_cons,List.not_mem_nil,or_false] at g;rcases g with rfl | rfl | rfl | rfl
  ·exact kP (fun a' w' _ d=>xC O p _ _ _ z c d) n
  ·exact kP (fun a' w' _ d=>by rw [F];exact xC O q _ _ _ e2 hq d) t
  ·exact kP (fun a' w' _ d=>by rw [G];exact xC O r _ _ _ e3 f d) C
  ·exact kP (fun a' w' _ d=>by rw [K];exact xC O s _ _ _ e4 E d) I
def planBT (ops:Array Oper) (kd:List Nat) (p:PlanT):Bool:=Region.noSelect ops&&p.even&&p.len==ops.size&&pK .any ops kd p (Array.replicate ops.size false)
section
variable {n:Nat} {E:List (Nat×Value)} {D:List Deferred} {a:Act} {Φ:Fz} {K:List Res} {w:World}
theorem y9m {id:Nat} {l:List Oper} {Q:Exit->Act->World->Prop} (kd:List Nat) (p:PlanT) (K':List Res) (J:EnvR n E D a) (N:Mem Φ K w) (j:P.follows .mixedOrders=true) (e:planBT l.toArray kd p=true) (f:∀r∈K',r∈K)
  (h:∀w,Mem Φ K w->vP P .any l.toArray (Sees Φ K') kd (fun c w=>∀a,a.defers=D->Q (.panic c) a w) (Q .normal) p a w):(Code.region id l.toArray true).wp P Q a w:=by
 have hm':=N.drew;simp only [planBT,baQ,beq_iff_eq] at e;obtain ⟨⟨⟨O,b⟩,hl⟩,d⟩:=e;refine (wpIn_wide (n:=3)).1 (wpIn_region_any j (kS (r:=none) (Inv:=fun a=>a.defers=D) (kd:=kd) (B:=Sees Φ K') (Qp:=fun c w=>∀a,a.defers=D->Q (.panic c) a w) (Q:=Q .normal) (fun h=>absurd rfl h) (fun i o a v _ J=>by cases k:o.dst <;> exact J) (fun _ _ h=>h) (fun c a w J h=>h a J) _ _ _ _ J.defs (fun _=>⟨hm'.fz,fun r g=>hm'.own r (f r g)⟩) ?_));have:=xC O p _ _ _ b d (h _ hm');rw [hl] at this;exact this
variable {Q:Act->World->Prop} {d:Nat} {v:Value} {op:Op} {ty:TypeId} {pos:String} {aft:Array Edge} {i j k m:Nat} {p q r s:PlanT} {L:Act->World->Prop}
theorem q7e (J:EnvR n E D a) (hi:ops[i]? = some ⟨some d,op,ty,pos,aft,none⟩) (b:yQ kd i=2) (e:∀w,B w->Ok P a op ty w v) (c:Nat.blt d n=true)
  (k:∀a,EnvR n ((d,v)::E) D a->L a w):vR P .any ops B kd Qp i L a w:=by
 unfold vR;simp only [hi];rw [if_pos (mI rfl _),if_neg (by rw [b];decide)];exact ⟨v,fun w f=>e w (f b) _ _ _ _,k _ (J.put c)⟩
theorem t_q (h:vR P .any ops B kd Qp i (vP P .any ops B kd Qp Q p) a w):vP P .any ops B kd Qp Q (.q i p) a w:=h
theorem t_pl {p:Plan} (h:zU P .any ops B kd Qp Q p a w):vP P .any ops B kd Qp Q (.pl p) a w:=h
theorem t_e3 (b:vR P .any ops B kd Qp i (vP P .any ops B kd Qp Q p) a w) (c:vR P .any ops B kd Qp j (vP P .any ops B kd Qp Q q) a w) (d:vR P .any ops B kd Qp k (vP P .any ops B kd Qp Q r) a w):vP P .any ops B kd Qp Q (.e3 i j k p q r) a w:=⟨b,c,d⟩
end
end
def z9x (l:List Int):List Value:=l.map (.int .i64)
theorem xI (l:List Int):(z9x l).length=l.length:=by simp [z9x]
theorem z4v (l:List Int) (x:Int):z9x (l++[x])=z9x l++[.int .i64 x]:=by simp [z9x]
theorem z6c {Φ:Fz}:∀(l:List Int),Chunks (RInt Φ) 1 (z9x l) l
 | []=>rfl
 | x::l=>⟨[.int .i64 x],z9x l,rfl,rfl,rfl,z6c l⟩
section
variable {R:Option (List TE×TE)} {up:List TE} {e:TE} {path:List Int} {i j:Nat} {v:Int}
theorem z1s (h:path[i]? = some v):yD up e (path.drop i)=(cQ e v).bind fun y=>yD (up++[e]) y (path.drop (i+1)):=by rw [yM h,yD]
theorem j3q {a:TA} (c:R=yD up e (path.drop i)) (f:path[i]? = some v) (g:v=(j:Int)) (d:e.kind=7) (b:e.arms[j]? = some a):R=yD (up++[e]) a.body (path.drop (i+1)):=by
 have h:j < e.arms.length:=(List.getElem?_eq_some_iff.1 b).1;rw [c,z1s f,g,cQ,if_neg (by omega),if_pos ⟨d,by omega⟩,Int.toNat_natCast,b];rfl
theorem z7x {b:TE} (a:R=yD up e (path.drop i)) (d:path[i]? = some v) (f:v=(j:Int)) (c:¬(e.kind=7/\v < (e.arms.length:Int))) (hb:e.body[j]? = some b):R=yD (up++[e]) b (path.drop (i+1)):=by
 have g:j < e.body.length:=(List.getElem?_eq_some_iff.1 hb).1;rw [a,z1s d,cQ,if_neg (by omega),if_neg c,f,if_pos (by omega),Int.toNat_natCast,hb];rfl
theorem j3s (a:R=yD up e (path.drop i)) (b:path[i]? = some v) (c:v < 0):R=none:=by
 rw [a,z1s b,cQ,if_pos c];rfl
theorem y4t (a:R=yD up e (path.drop i)) (c:path[i]? = some v) (d:¬v < 0) (b:¬(e.kind=7/\v < (e.arms.length:Int))) (hb:¬v < (e.body.length:Int)):R=none:=by
 rw [a,z1s c,cQ,if_neg d,if_neg b,if_neg hb];rfl
theorem j3r (a:R=yD up e (path.drop i)) (hi:¬i < path.length):R=some (up,e):=by
 rw [a,qV hi,yD]
theorem j9r {a:TA} (h:up.length+zA e<=20000) (b:e.arms[j]? = some a):(up++[e]).length+zA a.body<=20000:=by
 have:=kM (mgQ b);rw [laQ,List.length_singleton];omega
theorem y5m {b:TE} (h:up.length+zA e<=20000) (hb:e.body[j]? = some b):(up++[e]).length+zA b<=20000:=by
 have:=vN (mgQ hb);rw [laQ,List.length_singleton];omega
end
theorem kC {v:Value} {vs:List Value} (h:[v].all Value.oneCell'=true) (a:vs.all Value.oneCell'=true):(v::vs).all Value.oneCell'=true:=by
 simp only [List.all_cons,List.all_nil,Bool.and_true] at h ⊢;rw [h,a];rfl
abbrev AlgN:={y:Value×Value×Addr // [y.1].all Value.oneCell'=true/\[y.2.1].all Value.oneCell'=true}
section
variable {P:Program} {ops:Array Oper} {B:World->Prop} {kd:List Nat} {Qp:List PanicEntry->World->Prop} {n:Nat} {E:List (Nat×Value)} {D:List Deferred} {a:Act} {w:World} {d i:Nat} {v:Value} {op:Op} {ty:TypeId} {pos:String} {aft:Array Edge} {L:Act->World->Prop}
theorem z7h (J:EnvR n E D a) (hi:ops[i]? = some ⟨some d,op,ty,pos,aft,none⟩) (c:yQ kd i=1) (e:∀w,Ok P a op ty w v) (b:Nat.blt d n=true)
  (k:∀a,EnvR n ((d,v)::E) D a->L a w):vR P .any ops B kd Qp i L a w:=by
 unfold vR;simp only [hi];rw [if_pos (mI rfl _),if_neg (by rw [c];decide)];exact ⟨v,fun w _=>e w _ _ _ _,k _ (J.put b)⟩
end
theorem Chunks.drop {α:Type} {R:List Value->α->Prop} {k:Nat}:∀{l:List α} {cs:List Value} (i:Nat),Chunks R k cs l->Chunks R k (cs.drop (i * k)) (l.drop i)
 | l,cs,0,h=>by rw [Nat.zero_mul];exact h
 | [],cs,i+1,h=>by
  simp only [Chunks] at h;subst h;rw [List.drop_nil,List.drop_nil];rfl
 | x::l,cs,i+1,⟨c,rest,b,a,_,d⟩=>by
  have:=Chunks.drop i d;rw [List.drop_succ_cons,b,Nat.succ_mul,Nat.add_comm,<- List.drop_drop,<- a,List.drop_left];rw [a];exact this
theorem Chunks.take {α:Type} {R:List Value->α->Prop} {k:Nat}:∀{l:List α} {cs:List Value} (i:Nat),Chunks R k cs l->Chunks R k (cs.take (i * k)) (l.take i)
 | l,cs,0,h=>by rw [Nat.zero_mul,List.take_zero,List.take_zero];rfl
 | [],cs,i+1,h=>by
  simp only [Chunks] at h;subst h;rw [List.take_nil,List.take_nil];rfl
 | x::l,cs,i+1,⟨c,rest,b,a,d,e⟩=>by
  rw [List.take_succ_cons];refine ⟨c,rest.take (i * k),?_,a,d,Chunks.take i e⟩;rw [b,List.take_append,List.take_of_length_le (by rw [a,Nat.succ_mul];omega),a,Nat.succ_mul,Nat.add_sub_cancel]
def kI (q:Option Addr) (c lo k:Nat):Option Addr:=if c=lo then q else q.map (·.add (lo * k))
theorem q5h (c lo k:Nat):kI none c lo k=none:=by unfold kI;split <;> rfl
theorem SliceOf.sub {α:Type} {R:Fz->List Value->α->Prop} {Φ:Fz} {k:Nat} {q:Option Addr} {n c:Nat} {xs:List α} (h:SliceOf R Φ k (.slice q n c) xs) (u:0 < k) (A:n<=c) (lo hi:Nat) (y:lo<=hi) (z:hi<=n):SliceOf R Φ k (.slice (kI q c lo k) (hi - lo) (c - lo)) ((xs.drop lo).take (hi - lo)):=by
 obtain ⟨cs,x,hch⟩:=h;refine ⟨(cs.drop (lo * k)).take ((hi - lo) * k),?_,(hch.drop lo).take (hi - lo)⟩;have s:=hch.length;rcases x with ⟨h,t⟩ | ⟨p,m,c',e,hl,N,f⟩
 ·injection h with a e2 e3
  subst a;subst e2;subst e3;have a:lo=0:=by omega
  have e2:hi=0:=by omega
  subst a;subst e2;subst t;exact .inl ⟨by rw [q5h],by simp⟩
 ·injection e with a e2 e3
  subst a;subst e2;subst e3
  have d:((cs.drop (lo * k)).take ((hi - lo) * k)).length=(hi - lo) * k:=by
   rw [List.length_take,List.length_drop,hl,<- Nat.sub_mul];exact Nat.min_eq_left (Nat.mul_le_mul_right k (by omega))
  have r:∃p',kI (some p) c lo k=some p'/\(c≠lo->p'=p.add (lo * k)):=by
   unfold kI;split
   ·rename_i i;exact ⟨p,rfl,fun h=>absurd i h⟩
   ·exact ⟨_,rfl,fun _=>rfl⟩
  obtain ⟨p',hp',o⟩:=r;rw [hp'];refine .inr ⟨p',hi - lo,c - lo,rfl,d,by omega,fun l=>?_⟩
  have w:lo < hi:=by
   apply Nat.lt_of_not_le;intro i;apply l;rw [<- List.length_eq_zero_iff,d,Nat.sub_eq_zero_of_le i,Nat.zero_mul]
  rw [o (by omega)]
  have g:cs≠[]:=fun h=>by
   subst h;have:(0:Nat) < n * k:=Nat.mul_pos (by omega) u;rw [<- hl] at this;exact absurd this (Nat.lt_irrefl _)
  refine (f g).sub fun j v b=>?_;rw [List.getElem?_take] at b;split at b
  ·rw [List.getElem?_drop] at b;exact b
  ·cases b
section
variable {n:Nat} {E:List (Nat×Value)} {D:List Deferred} {a:Act} {x lo hi:Operand} {t e ty:TypeId} {q:Option Addr} {m c i j k:Nat} {w:World} {P:Program}
theorem sE (J:EnvR n E D a) (h:ev E x=some (.slice q m c)) (b:ev E lo=some (.int .i64 i)) (g:Under P t (.slice e)) (O:SizeT P e k) (d:i<=m) (f:m<=c) :
  Ok P a (.slice t x (some lo) none none) ty w (.slice (kI q c i k) (m - i) (c - i)):=fun _ _ _ _=>by
 have j:(i:Int)<=(m:Int):=by omega
 have hq:(if c=i then q else q.map (·.add (i * k)))=kI q c i k:=rfl;simp only [execOp,J.ev h,Option.map_some,Option.map_none,J.ev b,Instr.sliceAt]
 simp [Sem.run_bind,g w,O w,Instr.slice,Instr.sliceBounds,Instr.sliceBound,asIntOf,d,f,Result.andThen,kI,Nat.le_trans d f]
theorem y9z (J:EnvR n E D a) (l:ev E x=some (.slice q m c)) (d:ev E lo=some (.int .i64 i)) (b:ev E hi=some (.int .i64 j)) (h:Under P t (.slice e)) (O:SizeT P e k) (f:i<=j) (g:j<=c) :
  Ok P a (.slice t x (some lo) (some hi) none) ty w (.slice (kI q c i k) (j - i) (c - i)):=fun _ _ _ _=>by
 simp only [execOp,J.ev l,Option.map_some,Option.map_none,J.ev d,J.ev b,Instr.sliceAt]
 simp [Sem.run_bind,h w,O w,Instr.slice,Instr.sliceBounds,Instr.sliceBound,asIntOf,f,g,Result.andThen,kI,Nat.le_trans f g]
end
theorem q5z {up:List TE} {e:TE} {v:Int} {p:List Int} {r:List TE×TE} (h:yD up e (v::p)=some r):∃y,cQ e v=some y/\yD (up++[e]) y p=some r:=by
 rw [yD] at h;exact Option.bind_eq_some_iff.1 h
theorem x2l {e y:TE} {v:Int} (d:GI e) (h:cQ e v=some y) (g:e.kind=7):∃(j:Nat) (a:TA),v=(j:Int)/\e.arms[j]? = some a/\a.body=y:=by
 unfold cQ at h;split at h
 ·cases h
 ·rename_i f
  split at h
  ·obtain ⟨a,b,c⟩:=Option.map_eq_some_iff.1 h
   exact ⟨v.toNat,a,by omega,b,c⟩
  ·split at h
   ·rw [d.ar.last (by omega)] at h;cases h
   ·cases h
theorem j6m {e y:TE} {v:Int} (a:GI e) (h:cQ e v=some y) (i:¬e.kind=7):e.body=[y]:=by
 unfold cQ at h;split at h
 ·cases h
 ·rename_i j
  split at h
  ·rename_i g;exact absurd g.1 i
  ·split at h
   ·have hb:e.body≠[]:=fun f=>by rw [f] at h;cases h
    have hl:e.body.length=1:=by
     rcases Int.lt_or_le 0 e.kind with c | c
     ·rcases Int.lt_or_le e.kind 7 with hq | hq
      ·exact a.ar.rest (by omega) (by omega)
      ·exact absurd (a.ar.last (by omega)) hb
     ·exact absurd c (by have:=a.ar.lo;omega)
    obtain ⟨z,d⟩:=List.length_eq_one_iff.1 hl;rw [d] at h ⊢;rename_i b;rw [d] at b;simp only [lcQ,lnQ] at b;have:v.toNat=0:=by omega
    rw [this] at h;cases h;rfl
   ·cases h
theorem x3k {e y:TE} {a:TA} {v:Int} {j:Nat} {p:List Int} (c:e.kind=7) (d:v=(j:Int)) (b:e.arms[j]? = some a):zY e (v::p) y=.mk e.kind e.name e.op e.num e.site e.args (e.arms.set j (.mk a.con a.vars (zY a.body p y))) e.body:=by
 rw [zY,if_pos c,d,Int.toNat_natCast,b]
theorem j6x {e b y:TE} {v:Int} {p:List Int} (a:¬e.kind=7) (hb:e.body=[b]):zY e (v::p) y=.mk e.kind e.name e.op e.num e.site e.args e.arms [zY b p y]:=by
 rw [zY,if_neg a,hb]
theorem j6u {path:List Int} {v:Int} (h:path[0]? = some v):path=v::path.drop 1:=by
 cases path with
 | nil=>cases h
 | cons x l=>cases h;rfl
theorem gd_armI {e:TE} {a:TA} {j:Nat} (h:gdT e) (b:e.arms[j]? = some a):gdT a.body:=oL h (mgQ b)
theorem x1s {e b:TE} {j:Nat} (h:gdT e) (hb:e.body[j]? = some b):gdT b:=nN h (mgQ hb)
theorem SliceOf.from {α:Type} {R:Fz->List Value->α->Prop} {Φ:Fz} {k:Nat} {q:Option Addr} {c:Nat} {xs:List α} (h:SliceOf R Φ k (.slice q xs.length c) xs) (d:0 < k) (b:xs.length<=c) (lo:Nat) (a:lo<=xs.length):SliceOf R Φ k (.slice (kI q c lo k) (xs.length - lo) (c - lo)) (xs.drop lo):=by
 have:=h.sub d b lo xs.length a (Nat.le_refl _)
 rwa [List.take_of_length_le (by rw [List.length_drop];exact Nat.le_refl _)] at this
theorem y5f {q:Option Addr} {n c lo:Nat} (a:z2a (.slice q n c)) (_:lo<=n):n - lo<=c - lo:=by
 have:n<=c:=a;omega
section
variable {P:Program} {n:Nat} {E:List (Nat×Value)} {D:List Deferred} {a:Act} {Φ:Fz} {K:List Res} {w:World}
variable {Kn:Value->World->Prop} {Qp:List PanicEntry->World->Prop} {dst:Option Tmp} {ty:TypeId} {pos:String} {aft:Array Edge} {g:Option (Nat×Bool)}
theorem z9c (i lo j:Nat) {s x:Operand} {t e:TypeId} {size bytes m c:Nat} {b:Nat} {cs:List Value} (Y:RowT P t e size bytes) (J:EnvR n E D a) (N:Mem Φ K w)
  (O:ev E s=some (.slice (some ⟨b,0,none⟩) lo c)) (hx:ev E x=some (.slice (kI (some ⟨b,0,none⟩) c j size) (m - j) (c - j))) (Z:yU K i=some (.gs (.slice (some ⟨b,0,none⟩) m c) e size cs)) (h1:cs.all Value.oneCell'=true) (f0:lo<=j) (e0:j<=m)
  (k:∀w',Mem Φ (wA K i (.gs (.slice (some ⟨b,0,none⟩) (lo+(m - j)) c) e size (cs.take (lo * size)++cs.drop (j * size)))) w'->Kn (.slice (some ⟨b,0,none⟩) (lo+(m - j)) c) w') :
  Oper.eff P ⟨dst,.call { callee:=.builtin .append,args:=#[s,x],argTypes:=#[t,t] },ty,pos,aft,g⟩ a w Kn Qp:=by
 obtain ⟨inf,z,hi,hz,X,d0,h0⟩:=Y.info;obtain ⟨n0,B,y⟩:=N.own _ (yR Z);rcases y with ⟨y,_⟩ | ⟨b',cap,cur,y,M,hb,U,Q,A,H⟩
 ·cases y
 cases y;have d:(cs.drop (j * size)).length=(m - j) * size:=by rw [List.length_drop,B,Nat.sub_mul]
 have T:m * size<=cur.size:=by rw [A];exact Nat.mul_le_mul_right _ U
 obtain ⟨p',hp',W⟩:∃p':Addr,kI (some ⟨b,0,none⟩) c j size=some p'/\(c≠j->p'=(⟨b,0,none⟩:Addr).add (j * size)):=by
  unfold kI;split
  ·rename_i S;exact ⟨_,rfl,fun h=>absurd S h⟩
  ·exact ⟨_,rfl,fun _=>rfl⟩
 rw [hp'] at hx
 have p:∀t u,cs[t]? = some u->w.cell? ⟨b,t,none⟩=some u:=fun t u o=>by
  have I:t < cs.length:=(List.getElem?_eq_some_iff.1 o).1;rw [<- H,List.getElem?_take] at o;split at o
  ·simp only [World.cell?,hb]
   rw [Array.getElem?_toList] at o;simpa using o
  ·cases o
 have r:∀t u,(cs.drop (j * size))[t]? = some u->w.cell? (p'.add t)=some u:=fun t u o=>by
  have I:t < (m - j) * size:=by rw [<- d];exact (List.getElem?_eq_some_iff.1 o).1
  have hjm':j < m:=by
   apply Nat.lt_of_not_le;intro S;rw [Nat.sub_eq_zero_of_le S,Nat.zero_mul] at I;omega
  rw [W (by omega)];rw [List.getElem?_drop] at o;have:=p _ _ o;rw [Addr.add_lit,Addr.add_lit];simpa using this
 have C:∀v∈cs.drop (j * size),Value.oneCell' v=true:=fun v hv=>List.all_eq_true.1 h1 v (List.mem_of_mem_drop hv);have R:=run_firstCells_some (P:=P) (w:=w) size (m - j) p' (m - j) (c - j) _ d r
 have f:lo * size+0+(cs.drop (j * size)).length<=cur.size:=by
  rw [d,Nat.add_zero,<- Nat.add_mul];exact Nat.le_trans (Nat.mul_le_mul_right _ (by omega)) T
 have G:=run_storeCells_at P b (lo * size) e (cs.drop (j * size)) 0 cur w hb f C;rw [Nat.add_zero] at G;have l:lo+(m - j)<=c:=by omega
 have F:(Builtin.append_ #[t,t] ty #[.slice (some ⟨b,0,none⟩) lo c,.slice (some p') (m - j) (c - j)]).run P w=.ok (.slice (some ⟨b,0,none⟩) (lo+(m - j)) c) (w.setRow b (cur.toList.take (lo * size)++cs.drop (j * size)++cur.toList.drop (lo * size+(cs.drop (j * size)).length)).toArray):=by
  subst X
  simp [Builtin.append_,run_underlying Y.under,sizeOf,typeInfo,hi,Builtin.lenOf,l,R,Addr.add_lit,G]
 unfold Oper.eff
 have h3:(execOp a.eval ⟨dst,.call { callee:=.builtin .append,args:=#[s,x],argTypes:=#[t,t] },ty,pos,aft,g⟩).run P w=.ok (.value (.slice (some ⟨b,0,none⟩) (lo+(m - j)) c)) (w.setRow b (cur.toList.take (lo * size)++cs.drop (j * size)++cur.toList.drop (lo * size+(cs.drop (j * size)).length)).toArray):=by
  simp only [execOp,resolve,invoke,builtin,Sem.run_bind,Sem.run_pure,Result.andThen_ok,List.map_toArray,List.map_cons,List.map_nil,J.ev O,J.ev hx,F]
 rw [h3]
 have q:(cs.take (lo * size)).length=lo * size:=by
  rw [List.length_take,B];exact Nat.min_eq_left (Nat.mul_le_mul_right _ (by omega))
 refine k _ (N.upd Z rfl rfl (fun x hc V=>setRow_other w b x _ (fun e=>V (by simp [Res.foot,Value.ownBlock,e]))) ?_ (.inl rfl));refine ⟨lo+(m - j),?_,.inr ⟨b,c,_,rfl,M,setRow_heap w b _ _ e _ hb,l,Q,?_,?_⟩⟩
 ·rw [laQ,q,d,<- Nat.add_mul]
 ·rw [Nat.add_zero] at f
  generalize cs.drop (j * size)=L at f ⊢;rw [List.size_toArray,laQ,laQ,List.length_take,List.length_drop,Array.length_toList,<- A];omega
 ·have I:cur.toList.take (lo * size)=cs.take (lo * size):=by
   rw [<- H,List.take_take,Nat.min_eq_left (Nat.mul_le_mul_right _ (by omega))]
  rw [List.toList_toArray,I,List.take_append_of_le_length (by rw [laQ,q,d,<- Nat.add_mul];exact Nat.le_refl _),List.take_of_length_le (by rw [laQ,q,d,<- Nat.add_mul];exact Nat.le_refl _)]
theorem y5w:∀{K:List Res} {i:Nat} {r:Res},yU K i=some r->wA K i r=K
 | [],_,_,h=>by simp [yU] at h
 | _::_,0,_,h=>by simp only [yU,Option.some.injEq] at h;subst h;rfl
 | x::K,i+1,r,h=>by simp only [wA];rw [y5w (K:=K) (i:=i) h]
theorem z6x (i:Nat) {x:Operand} {t e:TypeId} {size bytes m c c' b:Nat} {cs:List Value} {z:Value} (I:RowT P t e size bytes) (R:Under P t (.slice e)) (J:EnvR n E D a) (N:Mem Φ K w)
  (G:ev E x=some (.slice (kI (some ⟨b,0,none⟩) c m size) 1 c')) (s:yU K i=some (.gs (.slice (some ⟨b,0,none⟩) m c) e size cs)) (y:m+1<=c) (M:∀w,(zeroValue e).run P w=.ok z w) (F:(Builtin.zeroCells z.cells 1).toList.length=size) (C:(Builtin.zeroCells z.cells 1).toList.all Value.oneCell'=true)
  (k:∀w',Mem Φ K w'->Kn (.tuple #[]) w') :
  Oper.eff P ⟨dst,.call { callee:=.builtin .clear,args:=#[x],argTypes:=#[t] },ty,pos,aft,g⟩ a w Kn Qp:=by
 obtain ⟨S,u,h⟩:=N.own _ (yR s);rcases h with ⟨h,_⟩ | ⟨b',cap,cur,h,q,hb,j,r,f,B⟩
 ·cases h
 cases h
 have hq:kI (some (⟨b,0,none⟩:Addr)) c m size=some ⟨b,m * size,none⟩:=by
  unfold kI;rw [if_neg (by omega)];simp [Addr.add_lit]
 rw [hq] at G
 have d:m * size+0+(Builtin.zeroCells z.cells 1).toList.length<=cur.size:=by
  rw [F,Nat.add_zero,<- Nat.succ_mul,f];exact Nat.mul_le_mul_right _ y
 have p:=run_storeCells_at P b (m * size) e (Builtin.zeroCells z.cells 1).toList 0 cur w hb d (fun v L=>List.all_eq_true.1 C v L);rw [Nat.add_zero] at p
 have l:(Builtin.clear_ #[t] ty #[.slice (some ⟨b,m * size,none⟩) 1 c']).run P w=.ok (.tuple #[]) (w.setRow b (cur.toList.take (m * size)++(Builtin.zeroCells z.cells 1).toList++cur.toList.drop (m * size+(Builtin.zeroCells z.cells 1).toList.length)).toArray):=by
  simp [Builtin.clear_,Sem.run_bind,run_underlying I.under,M w,p,Result.andThen]
 unfold Oper.eff
 have H:(execOp a.eval ⟨dst,.call { callee:=.builtin .clear,args:=#[x],argTypes:=#[t] },ty,pos,aft,g⟩).run P w=.ok (.value (.tuple #[])) (w.setRow b (cur.toList.take (m * size)++(Builtin.zeroCells z.cells 1).toList++cur.toList.drop (m * size+(Builtin.zeroCells z.cells 1).toList.length)).toArray):=by
  simp only [execOp,resolve,invoke,builtin,Sem.run_bind,Sem.run_pure,Result.andThen_ok,List.map_toArray,List.map_cons,List.map_nil,J.ev G,l]
 rw [H];have o:wA K i (.gs (.slice (some ⟨b,0,none⟩) m c) e size cs)=K:=y5w s;refine k _ (o▸N.upd s rfl rfl (fun x Q A=>setRow_other w b x _ (fun e=>A (by simp [Res.foot,Value.ownBlock,e]))) ?_ (.inl rfl));refine ⟨m,u,.inr ⟨b,c,_,rfl,q,setRow_heap w b _ _ e _ hb,j,r,?_,?_⟩⟩
 ·rw [List.size_toArray,laQ,laQ,List.length_take,List.length_drop,Array.length_toList,<- f]
  rw [Nat.add_zero] at d;omega
 ·rw [List.toList_toArray,List.append_assoc,List.take_append_of_le_length (by rw [List.length_take,Array.length_toList,f];exact Nat.le_min.2 ⟨Nat.le_refl _,Nat.mul_le_mul_right _ j⟩),List.take_take,Nat.min_self,B]
end
section
variable {n:Nat} {E:List (Nat×Value)} {D:List Deferred} {a:Act} {x lo hi mx:Operand} {t e ty:TypeId} {q:Option Addr} {m c i j k:Nat} {w:World} {P:Program}
theorem q5v (J:EnvR n E D a) (g:ev E x=some (.slice q m c)) (b:ev E hi=some (.int .i64 i)) (f:Under P t (.slice e)) (O:SizeT P e k) (d:i<=c):Ok P a (.slice t x none (some hi) none) ty w (.slice q i c):=fun _ _ _ _=>by
 simp only [execOp,J.ev g,Option.map_some,Option.map_none,J.ev b,Instr.sliceAt]
 simp [Sem.run_bind,f w,O w,Instr.slice,Instr.sliceBounds,Instr.sliceBound,asIntOf,d,Result.andThen,Addr.add]
theorem j7r (J:EnvR n E D a) (p:ev E x=some (.slice q m c)) (d:ev E lo=some (.int .i64 i)) (b:ev E hi=some (.int .i64 j)) (f:ev E mx=some (.int .i64 m)) (o:Under P t (.slice e)) (O:SizeT P e k) (g:i<=j) (h:j<=m) (l:m<=c) :
  Ok P a (.slice t x (some lo) (some hi) (some mx)) ty w (.slice (kI q m i k) (j - i) (m - i)):=fun _ _ _ _=>by
 simp only [execOp,J.ev p,Option.map_some,Option.map_none,J.ev d,J.ev b,J.ev f,Instr.sliceAt]
 simp [Sem.run_bind,o w,O w,Instr.slice,Instr.sliceBounds,Instr.sliceBound,asIntOf,g,h,l,Result.andThen,kI,Nat.le_trans g h]
end
theorem Sees.gsOwn {Φ:Fz} {K:List Res} {w:World} {i:Nat} {v:Value} {T:TypeId} {k m:Nat} {cs:List Value} (O:Sees Φ K w) (h:yU K i=some (.gs v T k cs)) (hl:cs.length=m * k) (g:0 < k) (N:0 < m):∃b c,v=.slice (some ⟨b,0,none⟩) m c/\m<=c/\c<=9223372036854775807:=by
 obtain ⟨l,e,a⟩:=O.own _ (yR h);have j:l=m:=Nat.eq_of_mul_eq_mul_right g (e.symm.trans hl);subst j;rcases a with ⟨_,a⟩ | ⟨b,cap,cur,a,_,_,f,d,_,_⟩
 ·omega
 ·exact ⟨b,cap,a,f,d⟩
def funIx (T:Trc) (n:Bs):Option Nat:=T.funs.findIdx? fun f=>decide (f.name=n)
def nH (T:Trc) (n:Bs):Option (List TPar):=if zM T=true then (funIx T n).bind fun i=>(T.funs[i]?).bind fun F=>(aK T F []).map BS.list else none
def dN (k:Int):Bs:=(⟨#[111]⟩:Bs)++q2k k++⟨#[39,48]⟩
def y8w (k:Int):Bool:=decide (k=1∨k=2∨k=3∨k=6)
def gN (own:List Bs) (num:Int):Nat->TE->Atoms->List TE->Option (TE×Atoms×List TE)
 | 0,_,_,_=>none
 | k+1,b,m,l=>
  if b.kind=8 then some (b,m,l)
  else if y8w b.kind=true/\¬dN (num+(l.length:Int))∈own then
   gN own num k (jQ b) (qT m b.name ⟨dN (num+(l.length:Int)),0⟩) (l++[.mk b.kind (dN (num+(l.length:Int))) b.op b.num b.site b.args b.arms []])
  else none
def dR (y out:TE):TE:=.mk y.kind y.name y.op y.num y.site y.args y.arms [out]
def cO (ps:List TPar) (zs:List Atom):Atoms:=(ps.zip zs).foldl (fun m p=>qT m p.1.name p.2) []
def FnS.inline (f:FnS) (x:TE) (num:Int):Option TE :=
 if 0<=num/\num<=99999 then
  (f.prog.funs[gL f.prog x.op]?).bind fun g=>(nH f.prog f.fn.name).bind fun ks=>
   (gN (ks.map TPar.name) num (zA g.body) g.body (cO g.params x.args) []).bind fun r=>
    (f.put [(x.name,pL r.2.1 (jW r.1 0))] (jQ x)).map fun out=>r.2.2.reverse.foldl (fun out y=>dR (zR r.2.1 y) out) out
 else none
def FnS.try6 (f:FnS) (rule:Int) (x:TE) (up:List TE) (path:List Int) (num:Int):Option TE :=
 if rule=6 then (if f.may 6 x up then f.inline x num else none) else f.try5 rule x up path
def xD (T:Trc) (r:Rw):Except Int Trc :=
 if r.rule=6 then
  (if r.fn < 0∨(T.funs.length:Int)<=r.fn then .error 3
  else match z8e T r.fn.toNat with
   | none=>.error 3
   | some f=>match yD [] f.fn.body r.path with
    | none=>.error 151
    | some (up,x)=>match f.try6 6 x up r.path r.num with
     | none=>.error 150
     | some y=>if zM (jI T r.fn.toNat (zY f.fn.body r.path y))=true then .ok (jI T r.fn.toNat (zY f.fn.body r.path y)) else .error 150)
 else vF T r
theorem vG {T:Trc} {r:Rw} (h:r.rule≠6):xD T r=vF T r:=if_neg h
theorem q5b (e:TE):∀{deep n m:Nat},kJ e deep n=some m->m=n+zA e/\m<=20000:=by
 refine pH (C:=fun e=>∀{deep n m:Nat},kJ e deep n=some m->m=n+zA e/\m<=20000) (fun e s hb deep n m h=>?_) e
 have q:∀(l:List TE),(∀x∈l,∀{deep n m:Nat},kJ x deep n=some m->m=n+zA x/\m<=20000)->∀{deep n m:Nat},n<=20000->sizeTs l deep n=some m->m=n+weightTs l/\m<=20000:=by
  intro l
  induction l with
  | nil=>intro _ deep n m i h;rw [sizeTs] at h;cases h;exact ⟨rfl,i⟩
  | cons x l p=>
   intro j deep n m i h;rw [sizeTs] at h;obtain ⟨k,a,b⟩:=Option.bind_eq_some_iff.1 h;obtain ⟨c,d⟩:=j x (msQ ..) a;obtain ⟨f,g⟩:=p (fun y o=>j y (mcQ _ o)) d b;exact ⟨by rw [f,c,weightTs];omega,g⟩
 have a:∀(l:List TA),(∀x∈l,∀{deep n m:Nat},kJ x.body deep n=some m->m=n+zA x.body/\m<=20000)->∀{deep n m:Nat},n<=20000->sizeTa l deep n=some m->m=n+weightTa l/\m<=20000:=by
  intro l
  induction l with
  | nil=>intro _ deep n m i h;rw [sizeTa] at h;cases h;exact ⟨rfl,i⟩
  | cons x l p=>
   intro j deep n m i h;rw [tR] at h;obtain ⟨k,a,b⟩:=Option.bind_eq_some_iff.1 h;obtain ⟨c,d⟩:=j x (msQ ..) a;obtain ⟨f,g⟩:=p (fun y o=>j y (mcQ _ o)) d b;refine ⟨?_,g⟩;cases x;rw [f,c,weightTa];simp only [TA.body];omega
 rw [z3v] at h;split at h
 ·rename_i t
  obtain ⟨k,b,c⟩:=Option.bind_eq_some_iff.1 h;obtain ⟨d,f⟩:=q e.body hb t.1 b;obtain ⟨g,r⟩:=a e.arms s f c;exact ⟨by rw [g,d,jX e];omega,r⟩
 ·cases h
theorem oW:∀(l:List TFn) {n m:Nat},n<=20000->pX l n=some m->m=n+(l.map fun f=>zA f.body).sum/\m<=20000
 | [],n,m,a,h=>by rw [pX] at h;cases h;exact ⟨rfl,a⟩
 | f::l,n,m,a,h=>by
  rw [pX] at h;obtain ⟨k,b,c⟩:=Option.bind_eq_some_iff.1 h;obtain ⟨d,e⟩:=q5b f.body b;obtain ⟨g,i⟩:=oW l e c;exact ⟨by rw [g,d,List.map_cons,List.sum_cons];omega,i⟩
theorem j4z {T:Trc} (h:zM T=true):FitP T:=by
 simp only [zM,baQ,decide_eq_true_eq] at h;obtain ⟨n,a⟩:=Option.isSome_iff_exists.1 h.1.1.2;obtain ⟨b,c⟩:=oW T.funs (by omega) a;unfold FitP qF;omega
theorem j5z {T:Trc} {chg:Bool} {e:TE} {s z:BS} (l:∀c∈T.cons,c.fields.length<=16) (m:∀f∈T.funs,f.params.length<=16) (h:yY T chg e s=some z) :
  e.args.length<=1000/\(e.kind=1->gP e.op=true)/\((e.kind=3∨e.kind=4∨e.kind=10)->∃f,T.funs.find? (fun f=>decide (f.name=e.op))=some f/\e.args.length=f.params.length):=by
 have a:∀{c:Bool},s.call T e c=true->∃f,T.funs.find? (fun f=>decide (f.name=e.op))=some f/\e.args.length=f.params.length:=fun {c} hq=>by
  unfold BS.call at hq;split at hq
  ·rename_i f k
   simp only [baQ] at hq;exact ⟨f,k,by have:=xK hq.2;rw [List.length_map] at this;exact this⟩
  ·cases hq
 have b:∀{c:Bool},s.call T e c=true->e.args.length<=1000:=fun hq=>by
  obtain ⟨f,g,n⟩:=a hq;have:=m f (List.mem_of_find?_eq_some g);omega
 unfold yY at h;split at h
 ·split at h
  ·rename_i q
   simp only [baQ] at q;have:=xK q.2;exact ⟨by rw [this];simp,fun _=>q.1.2,fun d=>by omega⟩
  ·cases h
 split at h
 ·split at h
  ·split at h
   ·rename_i c j
    split at h
    ·rename_i q
     have g:=xK q;obtain ⟨i,_,hi⟩:=Option.bind_eq_some_iff.1 j;have:=l c (mgQ hi);exact ⟨by omega,fun _=>by omega,fun d=>by omega⟩
    ·cases h
   ·cases h
  ·cases h
 split at h
 ·split at h
  ·rename_i q
   simp only [baQ] at q;exact ⟨b q.2,fun _=>by omega,fun _=>a q.2⟩
  ·cases h
 split at h
 ·split at h
  ·rename_i q
   simp only [baQ] at q;exact ⟨b q.2,fun _=>by omega,fun _=>a q.2⟩
  ·cases h
 split at h
 ·split at h
  ·rename_i q
   simp only [baQ] at q;have:=xK q.2;exact ⟨by rw [this];simp,fun _=>by omega,fun d=>by omega⟩
  ·cases h
 split at h
 ·split at h
  ·rename_i q
   simp only [baQ] at q;have g:=q.1.1;simp only [zB,baQ,decide_eq_true_eq,Bool.or_eq_true,Bool.false_eq_true,false_or] at g;exact ⟨by omega,fun _=>by omega,fun d=>by omega⟩
  ·cases h
 split at h
 ·split at h
  ·rename_i q
   simp only [baQ] at q;have:=xK q.2;exact ⟨by rw [this];simp,fun _=>by omega,fun d=>by omega⟩
  ·cases h
 split at h
 ·split at h
  ·rename_i q
   simp only [baQ] at q;have:=xK q.2;exact ⟨by rw [this];simp,fun _=>by omega,fun d=>by omega⟩
  ·cases h
 split at h
 ·split at h
  ·rename_i q
   simp only [baQ] at q;exact ⟨b q.2,fun _=>by omega,fun _=>a q.2⟩
  ·cases h
 ·cases h
def j0l (T:Trc) (e:TE):Prop:=(e.kind=3∨e.kind=4∨e.kind=10)->∃f,T.funs.find? (fun f=>decide (f.name=e.op))=some f/\e.args.length=f.params.length
mutual
def gcT (T:Trc):TE->Prop
 | .mk k nm op num site args arms body=>(GI (.mk k nm op num site args arms body)/\j0l T (.mk k nm op num site args arms body))/\gcTa T arms/\gcTs T body
def gcTs (T:Trc):List TE->Prop
 | []=>True
 | x::xs=>gcT T x/\gcTs T xs
def gcTa (T:Trc):List TA->Prop
 | []=>True
 | .mk _ _ b::xs=>gcT T b/\gcTa T xs
end
theorem gcT_eq (T:Trc) (e:TE):gcT T e↔(GI e/\j0l T e)/\gcTa T e.arms/\gcTs T e.body:=by cases e;exact Iff.rfl
theorem gcTs_iff {T:Trc}:∀{l:List TE},gcTs T l↔∀x∈l,gcT T x
 | []=>by simp [gcTs]
 | x::l=>by rw [gcTs,gcTs_iff (l:=l)];simp
theorem gcTa_iff {T:Trc}:∀{l:List TA},gcTa T l↔∀x∈l,gcT T x.body
 | []=>by simp [gcTa]
 | .mk c vs b::l=>by rw [gcTa,gcTa_iff (l:=l)];simp [TA.body]
theorem gc_gd {T:Trc} {e:TE}:gcT T e->gdT e:=by
 refine pH (C:=fun e=>gcT T e->gdT e) (fun e d hb h=>?_) e;have c:=(gcT_eq T e).1 h;exact q2a c.1.1 (fun a b=>d a b (gcTa_iff.1 c.2.1 a b)) (fun x b=>hb x b (gcTs_iff.1 c.2.2 x b))
theorem x1r {T:Trc} {e:TE}:gcT T e->∀{p:List Int} {up:List TE} {y:Fnd},y∈zF p up e->j0l T y.x:=by
 refine pH (C:=fun e=>gcT T e->∀{p:List Int} {up:List TE} {y:Fnd},y∈zF p up e->j0l T y.x) (fun e f hb g p up y h=>?_) e;have c:=(gcT_eq T e).1 g;rcases wS h with rfl | ⟨j,a,b,d⟩ | ⟨j,x,b,d⟩
 ·exact c.1.2
 ·exact f a (mgQ b) (gcTa_iff.1 c.2.1 a (mgQ b)) d
 ·exact hb x (mgQ b) (gcTs_iff.1 c.2.2 x (mgQ b)) d
theorem q0j {T:Trc} {chg:Bool} {first:Nat} {outer:List (Bs×Int)} (f:∀c∈T.cons,c.fields.length<=16):∀{l:List TA} {i:Nat} {s z:BS},armsT T chg first outer i l s=some z->∀a∈l,a.vars.length<=1000
 | [],_,_,_,_,a,e=>by cases e
 | .mk c vs b::xs,i,s,z,h,a,e=>by
  rw [armsT] at h;split at h
  ·rename_i q
   obtain ⟨s1,_,h⟩:=Option.bind_eq_some_iff.1 h;obtain ⟨o,m,g⟩:=Option.bind_eq_some_iff.1 h;rcases List.mem_cons.1 e with rfl | e
   ·unfold mM at q
    split at q
    ·rename_i k d n j
     simp only [baQ,decide_eq_true_eq] at q;have:=f d (mgQ j);have:=q.2;simp only [TA.vars] at this ⊢;omega
    ·cases q
   ·exact q0j f g a e
  ·cases h
mutual
theorem y8h {T:Trc} {chg:Bool} (g:∀c∈T.cons,c.fields.length<=16) (j:∀f∈T.funs,f.params.length<=16):∀{e:TE} {s z:BS},jH T chg e s=some z->gcT T e
 | .mk k nm op num site args arms body,s,z,h=>by
  have m:=((arT_eq _).1 (z2i h)).1;unfold jH at h;obtain ⟨s1,d,n⟩:=Option.bind_eq_some_iff.1 h;have hb:=rest_gc g j n;split at d
  ·rename_i p
   subst p;split at d
   ·rename_i q
    simp only [baQ] at q;have hl:=xK q.2;cases args with
    | nil=>cases d
    | cons a l=>
     cases arms with
     | nil=>cases d
     | cons b r=>
      obtain ⟨c,vs,bo⟩:=b;simp only at d;split at d
      ·cases d
      ·split at d
       ·obtain ⟨u,o,_⟩:=Option.bind_eq_some_iff.1 d
        refine ⟨⟨⟨m,fun (h:(7:Int)=1)=>(by cases h),by show (a::l).length<=1000;rw [hl];simp,q0j g o⟩,fun h=>?_⟩,arms_gc g j o,hb⟩;simp only [TE.kind] at h;omega
       ·cases d
   ·cases d
  ·rename_i p
   have t:arms=[]:=m.arms p;obtain ⟨o,v,w⟩:=j5z g j d;exact ⟨⟨⟨m,v,o,fun a h=>by rw [show TE.arms _=arms from rfl,t] at h;cases h⟩,w⟩,by rw [t];exact trivial,hb⟩
theorem rest_gc {T:Trc} {chg:Bool} {nm:Bs} {mod:Bool} (g:∀c∈T.cons,c.fields.length<=16) (j:∀f∈T.funs,f.params.length<=16):∀{l:List TE} {s z:BS},restT T chg nm mod l s=some z->gcTs T l
 | [],_,_,_=>trivial
 | x::xs,s,z,h=>by
  rw [restT] at h;obtain ⟨s1,_,h⟩:=Option.bind_eq_some_iff.1 h;obtain ⟨u,d,n⟩:=Option.bind_eq_some_iff.1 h;exact ⟨y8h g j d,rest_gc g j n⟩
theorem arms_gc {T:Trc} {chg:Bool} {first:Nat} {outer:List (Bs×Int)} (g:∀c∈T.cons,c.fields.length<=16) (j:∀f∈T.funs,f.params.length<=16):∀{l:List TA} {i:Nat} {s z:BS},armsT T chg first outer i l s=some z->gcTa T l
 | [],_,_,_,_=>trivial
 | .mk c vs b::xs,i,s,z,h=>by
  rw [armsT] at h;split at h
  ·obtain ⟨s1,_,h⟩:=Option.bind_eq_some_iff.1 h
   obtain ⟨u,d,n⟩:=Option.bind_eq_some_iff.1 h;exact ⟨y8h g j d,arms_gc g j n⟩
  ·cases h
end
theorem q2c {T:Trc} (h:qC T=true):∀c∈T.cons,c.fields.length<=16:=fun c b=>by
 unfold qC at h;simp only [baQ,List.all_eq_true] at h;obtain ⟨i,hi⟩:=List.mem_iff_getElem?.1 b;have a:=h.1.1.1 i (List.mem_range.2 (List.getElem?_eq_some_iff.1 hi).1);rw [hi] at a;simp only [nB,baQ,decide_eq_true_eq] at a;exact a.1.2
theorem q2d {T:Trc} (h:qC T=true):(∀f∈T.funs,f.params.length<=16)/\∀(i j:Nat) (f g:TFn),j < i->T.funs[i]? = some f->T.funs[j]? = some g->g.name≠f.name:=by
 unfold qC at h;simp only [baQ,List.all_eq_true] at h
 have c:∀(i:Nat) (f:TFn),T.funs[i]? = some f->((!((T.funs.take i).any fun g=>decide (g.name=f.name)))=true/\vC f.name=true)/\f.params.length<=16:=fun i f hi=>by
  have a:=h.1.2 i (List.mem_range.2 (List.getElem?_eq_some_iff.1 hi).1);rw [hi] at a
  simpa only [baQ,decide_eq_true_eq] using a
 refine ⟨fun f d=>?_,fun i j f g b hi e k=>?_⟩
 ·obtain ⟨i,hi⟩:=List.mem_iff_getElem?.1 d
  exact (c i f hi).2
 ·have a:=(c i f hi).1.1
  simp only [Bool.not_eq_true',List.any_eq_false,decide_eq_true_eq] at a;refine a g ?_ k;exact List.mem_iff_getElem?.2 ⟨j,by rw [List.getElem?_take_of_lt b];exact e⟩
theorem j1o {T:Trc} (b:∀c∈T.cons,c.fields.length<=16) (d:∀f∈T.funs,f.params.length<=16):∀{l:List TFn} {m z:List (Int×Int)},wY T l m=some z->∀f∈l,gcT T f.body
 | [],_,_,_,_,h=>by cases h
 | g::l,m,z,h,f,hq=>by
  rw [wY] at h;obtain ⟨s,a,e⟩:=Option.bind_eq_some_iff.1 h;rcases List.mem_cons.1 hq with rfl | hq
  ·unfold aK at a
   obtain ⟨j,_,i⟩:=Option.bind_eq_some_iff.1 a;exact y8h b d i
  ·exact j1o b d e f hq
theorem wV {T:Trc} (h:zM T=true):GoodP T:=by
 have a:=j4z h;have h':=h;simp only [zM,baQ] at h';have o:qC T=true:=h'.1.2;obtain ⟨z,w⟩:=Option.isSome_iff_exists.1 h'.2;have s:=q2c o;obtain ⟨t,p⟩:=q2d o;have n:=j1o s t w;refine ⟨a,fun f hq=>gc_gd (n f hq),fun f hq y v u=>?_⟩;obtain ⟨g,l,r⟩:=x1r (n f hq) v u;have d:=List.find?_some l;have m:=List.mem_of_find?_eq_some l;simp only [decide_eq_true_eq] at d;refine ⟨⟨g,m,d⟩,fun q e k=>?_⟩;obtain ⟨i,hi⟩:=List.mem_iff_getElem?.1 m;obtain ⟨j,c⟩:=List.mem_iff_getElem?.1 e;have b:q.name=g.name:=by rw [k,d]
 rcases Nat.lt_trichotomy i j with hl | hl | hl
 ·exact absurd b.symm (p j i q g hl c hi)
 ·subst hl;rw [hi] at c;cases c;exact r.symm
 ·exact absurd b (p i j g q hl hi c)
theorem q5q (m:Atoms) (e:TE):zA (zR m e)=zA e:=by
 refine pH (C:=fun e=>zA (zR m e)=zA e) (fun e i hb=>?_) e
 have j:∀(l:List TA),(∀a∈l,zA (zR m a.body)=zA a.body)->weightTa (withTa m l)=weightTa l:=by
  intro l
  induction l with
  | nil=>intro _;rfl
  | cons a l g=>
   intro h;have d:=h a (msQ ..);have n:=g fun x f=>h x (mcQ _ f);cases a with
   | mk c vs b=>rw [withTa,weightTa,weightTa,n];simp only [TA.body] at d;rw [d]
 have d:∀(l:List TE),(∀a∈l,zA (zR m a)=zA a)->weightTs (withTs m l)=weightTs l:=by
  intro l
  induction l with
  | nil=>intro _;rfl
  | cons a l g=>
   intro h;rw [withTs,weightTs,weightTs,h a (msQ ..),g fun x f=>h x (mcQ _ f)]
 cases e with
 | mk k nm op num site args arms body=>
  simp only [TE.arms,TE.body] at i hb;rw [zR,zA,zA,j arms i,d body hb]
theorem cW {f:FnS} {m:Atoms} {b c:TE} (h:f.put m b=some c):zA c=zA b:=by
 unfold FnS.put at h;split at h
 ·cases h;exact q5q m b
 ·cases h
theorem dT (x:TE):zA (jQ x)<=zA x:=by
 unfold jQ;cases hb:x.body with
 | nil=>exact Nat.le_refl _
 | cons y l=>have:=vN (e:=x) (x:=y) (by rw [hb];exact msQ);show zA y<=_;omega
section
variable {f:FnS} {x y:TE}
theorem q5p (h:f.fold x=some y):zA y<=zA x:=by
 unfold FnS.fold at h;simp only at h;split at h
 ·rw [cW h];exact dT x
 ·split at h
  ·split at h
   ·cases h
    rw [jX,jX x];simp only [TE.arms,TE.body,weightTa];omega
   ·cases h
  ·cases h
theorem z6o:∀{l:List TE},f.fuse x l=some y->zA y<=zA x
 | [],h=>by cases h
 | z::l,h=>by
  rw [FnS.fuse] at h;split at h
  ·rw [cW h];exact dT x
  ·exact z6o h
theorem y3c {c:Bs} {l:List Atom} (h:f.arm x c l=some y):zA y<=zA x:=by
 unfold FnS.arm at h;obtain ⟨a,b,h⟩:=Option.bind_eq_some_iff.1 h;have:=kM (List.mem_of_find?_eq_some b);rw [cW h];omega
theorem z4b:∀{l:List (TE×Int)},f.known x l=some y->zA y<=zA x
 | [],h=>by cases h
 | (z,i)::l,h=>by
  rw [FnS.known] at h;split at h
  ·exact y3c h
  ·split at h
   ·obtain ⟨a,_,h⟩:=Option.bind_eq_some_iff.1 h;exact y3c h
   ·exact z4b h
theorem tV:∀{l:List TE},f.forward x l=some y->zA y<=zA x
 | [],h=>by cases h
 | z::l,h=>by
  rw [FnS.forward] at h;split at h
  ·obtain ⟨g,_,h⟩:=Option.bind_eq_some_iff.1 h
   split at h
   ·split at h
    ·rw [cW h];exact dT x
    ·cases h
   ·cases h
  ·exact tV h
theorem y3d {r:Int} {up:List TE} {p:List Int} (h:f.try5 r x up p=some y):zA y<=zA x:=by
 unfold FnS.try5 at h;split at h
 ·split at h
  ·exact q5p h
  split at h
  ·cases h;exact dT x
  split at h
  ·exact z6o h
  split at h
  ·exact z4b h
  ·exact tV h
 ·cases h
end
section
variable {f:FnS} {x y:TE}
theorem y8p {m:Atoms} {b c:TE} (hb:gdT b) (h:f.put m b=some c):gdT c:=by
 unfold FnS.put at h;split at h
 ·cases h;exact gd_with hb
 ·cases h
theorem z7m (a:gdT x):gdT (jQ x):=by
 unfold jQ;cases hb:x.body with
 | nil=>exact a
 | cons y l=>exact nN a (by rw [hb];exact msQ)
theorem gd_fold (b:gdT x) (c:1<=x.kind/\x.kind<=6) (h:f.fold x=some y):gdT y:=by
 unfold FnS.fold at h;simp only at h;split at h
 ·exact y8p (z7m b) h
 ·split at h
  ·split at h
   ·cases h
    have hi:=nA b;refine q2a ⟨⟨fun h=>?_,fun h=>?_,fun _ _=>?_,fun h=>?_,fun _=>rfl,?_,?_⟩,fun h=>?_,?_,fun a h=>?_⟩ (fun a h=>?_) (fun z h=>nN b h)
    ·simp only [TE.kind] at h;omega
    ·simp only [TE.kind] at h;omega
    ·exact hi.ar.rest c.1 c.2
    ·simp only [TE.kind] at h;omega
    ·simp only [TE.kind];omega
    ·simp only [TE.kind];omega
    ·simp only [TE.kind] at h;omega
    ·simp [TE.args]
    ·simp [TE.arms] at h
    ·simp [TE.arms] at h
   ·cases h
  ·cases h
theorem j1s (a:gdT x):∀{l:List TE},f.fuse x l=some y->gdT y
 | [],h=>by cases h
 | z::l,h=>by
  rw [FnS.fuse] at h;split at h
  ·exact y8p (z7m a) h
  ·exact j1s a h
theorem j1r {c:Bs} {l:List Atom} (d:gdT x) (h:f.arm x c l=some y):gdT y:=by
 unfold FnS.arm at h;obtain ⟨a,b,h⟩:=Option.bind_eq_some_iff.1 h;exact y8p (oL d (List.mem_of_find?_eq_some b)) h
theorem q1z (b:gdT x):∀{l:List (TE×Int)},f.known x l=some y->gdT y
 | [],h=>by cases h
 | (z,i)::l,h=>by
  rw [FnS.known] at h;split at h
  ·exact j1r b h
  ·split at h
   ·obtain ⟨a,_,h⟩:=Option.bind_eq_some_iff.1 h;exact j1r b h
   ·exact q1z b h
theorem z9o (a:gdT x):∀{l:List TE},f.forward x l=some y->gdT y
 | [],h=>by cases h
 | z::l,h=>by
  rw [FnS.forward] at h;split at h
  ·obtain ⟨g,_,h⟩:=Option.bind_eq_some_iff.1 h
   split at h
   ·split at h
    ·exact y8p (z7m a) h
    ·cases h
   ·cases h
  ·exact z9o a h
theorem gd_try {r:Int} {up:List TE} {p:List Int} (a:gdT x) (h:f.try5 r x up p=some y):gdT y:=by
 unfold FnS.try5 at h;split at h
 ·rename_i N
  split at h
  ·rename_i b
   refine gd_fold a ?_ h;unfold FnS.may at N;rw [if_pos b] at N;have:=(of_decide_eq_true N).1;omega
  split at h
  ·cases h;exact z7m a
  split at h
  ·exact j1s a h
  split at h
  ·exact q1z a h
  ·exact z9o a h
 ·cases h
end
theorem y9w {l:List TA} {j:Nat} {a b:TA} (h:l[j]? = some a) (f:zA b.body<=zA a.body):weightTa (l.set j b)<=weightTa l:=by
 induction l generalizing j with
 | nil=>simp at h
 | cons c l e=>
  have d:∀(c:TA) (l:List TA),weightTa (c::l)=zA c.body+weightTa l:=fun c l=>by cases c;rfl
  cases j with
  | zero=>
   rw [List.getElem?_cons_zero] at h;cases h;rw [List.set_cons_zero,d,d];omega
  | succ j=>
   rw [List.getElem?_cons_succ] at h;rw [List.set_cons_succ,d,d];have:=e h;omega
theorem y8o {e x:TE} {i:Int} (c:gdT e) (h:cQ e i=some x):gdT x:=by
 obtain ⟨j,_,d⟩:=gY (oC _ (q1y c)) h;rcases d with ⟨_,a,b,rfl⟩ | ⟨_,b⟩
 ·exact oL c (mgQ b)
 ·exact nN c (mgQ b)
theorem z5e {y:TE} (o:gdT y):∀(p:List Int) {e:TE} {up u:List TE} {x:TE},gdT e->yD up e p=some (u,x)->zA y<=zA x->gdT (zY e p y)/\zA (zY e p y)<=zA e
 | [],e,up,u,x,d,h,l=>by
  rw [yD] at h;cases h;exact ⟨o,l⟩
 | i::p,e,up,u,x,d,h,l=>by
  rw [yD] at h;obtain ⟨z,m,q⟩:=Option.bind_eq_some_iff.1 h;have A:=y8o d m;obtain ⟨n,r⟩:=z5e o p A q l;have hi:=nA d;obtain ⟨j,v,s⟩:=gY (oC _ (q1y d)) m;subst v;rw [zY];rcases s with ⟨f,a,c,rfl⟩ | ⟨f,c⟩
  ·rw [if_pos f,Int.toNat_natCast,c]
   have hb:e.body=[]:=hi.ar.last (by omega);constructor
   ·refine q2a ⟨⟨hi.ar.two,hi.ar.one,hi.ar.rest,hi.ar.last,fun w=>absurd f w,hi.ar.lo,hi.ar.hi⟩,hi.op,hi.na,fun b hb=>?_⟩ (fun b hb=>?_) (fun b hb=>nN d hb)
    ·simp only [TE.arms] at hb
     rcases List.mem_or_eq_of_mem_set hb with hb | rfl
     ·exact hi.nv b hb
     ·exact hi.nv a (mgQ c)
    ·simp only [TE.arms] at hb
     rcases List.mem_or_eq_of_mem_set hb with hb | rfl
     ·exact oL d hb
     ·exact n
   ·rw [jX,jX e]
    have:=y9w (b:=TA.mk a.con a.vars (zY a.body p y)) c (by simp only [TA.body];exact r);show 1+weightTa (e.arms.set j (TA.mk a.con a.vars (zY a.body p y)))+weightTs e.body<=1+weightTa e.arms+weightTs e.body;omega
  ·rw [if_neg f]
   have hl:e.body.length=1:=by
    have t:1<=e.kind:=hi.ar.lo;by_cases g:e.kind<=6
    ·exact hi.ar.rest t g
    ·have:=hi.ar.last (by omega);rw [this] at c;simp at c
   match hb:e.body with
   | []=>rw [hb] at hl;simp at hl
   | [b]=>
    rw [hb] at c;have k:j=0:=by have:=(List.getElem?_eq_some_iff.1 c).1;simp at this;exact this
    subst k;rw [List.getElem?_cons_zero] at c;cases c;simp only;constructor
    ·refine q2a ⟨⟨hi.ar.two,hi.ar.one,fun _ _=>rfl,fun g=>?_,hi.ar.arms,hi.ar.lo,hi.ar.hi⟩,hi.op,hi.na,hi.nv⟩ (fun b hb=>oL d hb) (fun b hb=>?_)
     ·have:=hi.ar.last g;rw [this] at hb;cases hb
     ·simp only [TE.body,List.mem_singleton] at hb;subst hb;exact n
    ·rw [jX,jX e,hb]
     simp only [TE.arms,TE.body,weightTs];omega
   | _::_::_=>rw [hb] at hl;simp at hl
def CI (C:Bs->Nat->Prop) (e:TE):Prop:=(e.kind=3∨e.kind=4∨e.kind=10)->C e.op e.args.length
mutual
def clT (C:Bs->Nat->Prop):TE->Prop
 | .mk k nm op num site args arms body=>CI C (.mk k nm op num site args arms body)/\clTa C arms/\clTs C body
def clTs (C:Bs->Nat->Prop):List TE->Prop
 | []=>True
 | x::xs=>clT C x/\clTs C xs
def clTa (C:Bs->Nat->Prop):List TA->Prop
 | []=>True
 | .mk _ _ b::xs=>clT C b/\clTa C xs
end
variable {C:Bs->Nat->Prop}
theorem dW (e:TE):clT C e↔CI C e/\clTa C e.arms/\clTs C e.body:=by cases e;exact Iff.rfl
theorem clTs_iff:∀{l:List TE},clTs C l↔∀x∈l,clT C x
 | []=>by simp [clTs]
 | x::l=>by rw [clTs,clTs_iff (l:=l)];simp
theorem clTa_iff:∀{l:List TA},clTa C l↔∀x∈l,clT C x.body
 | []=>by simp [clTa]
 | .mk c vs b::l=>by rw [clTa,clTa_iff (l:=l)];simp [TA.body]
theorem oI {e x:TE} (h:clT C e) (a:x∈e.body):clT C x:=clTs_iff.1 ((dW e).1 h).2.2 x a
theorem dE {e:TE} {a:TA} (h:clT C e) (b:a∈e.arms):clT C a.body:=clTa_iff.1 ((dW e).1 h).2.1 a b
theorem q1e {e:TE} (b:CI C e) (c:∀a∈e.arms,clT C a.body) (d:∀x∈e.body,clT C x):clT C e:=(dW e).2 ⟨b,clTa_iff.2 c,clTs_iff.2 d⟩
theorem aU (e:TE):∀(p:List Int) (up:List TE),clT C e↔∀y∈zF p up e,CI C y.x:=by
 refine pH (C:=fun e=>∀(p:List Int) (up:List TE),clT C e↔∀y∈zF p up e,CI C y.x) (fun e g hb p up=>?_) e;constructor
 ·intro h y c
  rcases wS c with rfl | ⟨j,a,b,d⟩ | ⟨j,x,b,d⟩
  ·exact ((dW e).1 h).1
  ·exact (g a (mgQ b) _ _).1 (dE h (mgQ b)) y d
  ·exact (hb x (mgQ b) _ _).1 (oI h (mgQ b)) y d
 ·intro h
  refine q1e (h ⟨p,up,e⟩ (by rw [jS];exact msQ)) (fun a b=>?_) (fun x b=>?_)
  ·obtain ⟨j,f⟩:=List.mem_iff_getElem?.1 b
   refine (g a b (p++[(j:Int)]) (up++[e])).2 fun y c=>h y ?_;rw [jS];exact mcQ _ (List.mem_append_left _ (mem_belowTa.2 ⟨j,a,f,by rw [Int.zero_add];exact c⟩))
  ·obtain ⟨j,f⟩:=List.mem_iff_getElem?.1 b
   refine (hb x b (p++[(j:Int)]) (up++[e])).2 fun y c=>h y ?_;rw [jS];exact mcQ _ (List.mem_append_right _ (mem_belowTs.2 ⟨j,x,f,by rw [Int.zero_add];exact c⟩))
theorem cl_with {m:Atoms} {e:TE}:clT C e->clT C (zR m e):=by
 refine pH (C:=fun e=>clT C e->clT C (zR m e)) (fun e d hb c=>?_) e;rw [y3e];refine q1e (fun h=>?_) (fun a h=>?_) (fun x h=>?_)
 ·have:=((dW e).1 c).1 h
  show C e.op (e.args.map _).length;rw [List.length_map];exact this
 ·obtain ⟨z,b,rfl⟩:=List.mem_map.1 h
  exact d z b (dE c b)
 ·obtain ⟨z,b,rfl⟩:=List.mem_map.1 h
  exact hb z b (oI c b)
section
variable {f:FnS} {x y:TE}
theorem y8d {m:Atoms} {b c:TE} (hb:clT C b) (h:f.put m b=some c):clT C c:=by
 unfold FnS.put at h;split at h
 ·cases h;exact cl_with hb
 ·cases h
theorem z7g (a:clT C x):clT C (jQ x):=by
 unfold jQ;cases hb:x.body with
 | nil=>exact a
 | cons y l=>exact oI a (by rw [hb];exact msQ)
theorem cl_fold (b:clT C x) (h:f.fold x=some y):clT C y:=by
 unfold FnS.fold at h;simp only at h;split at h
 ·exact y8d (z7g b) h
 ·split at h
  ·split at h
   ·cases h
    exact q1e (fun h=>by simp only [TE.kind] at h;omega) (fun a h=>by cases h) (fun z h=>oI b h)
   ·cases h
  ·cases h
theorem j1a (a:clT C x):∀{l:List TE},f.fuse x l=some y->clT C y
 | [],h=>by cases h
 | z::l,h=>by
  rw [FnS.fuse] at h;split at h
  ·exact y8d (z7g a) h
  ·exact j1a a h
theorem j0z {c:Bs} {l:List Atom} (d:clT C x) (h:f.arm x c l=some y):clT C y:=by
 unfold FnS.arm at h;obtain ⟨a,b,h⟩:=Option.bind_eq_some_iff.1 h;exact y8d (dE d (List.mem_of_find?_eq_some b)) h
theorem q1d (b:clT C x):∀{l:List (TE×Int)},f.known x l=some y->clT C y
 | [],h=>by cases h
 | (z,i)::l,h=>by
  rw [FnS.known] at h;split at h
  ·exact j0z b h
  ·split at h
   ·obtain ⟨a,_,h⟩:=Option.bind_eq_some_iff.1 h;exact j0z b h
   ·exact q1d b h
theorem z8y (a:clT C x):∀{l:List TE},f.forward x l=some y->clT C y
 | [],h=>by cases h
 | z::l,h=>by
  rw [FnS.forward] at h;split at h
  ·obtain ⟨g,_,h⟩:=Option.bind_eq_some_iff.1 h
   split at h
   ·split at h
    ·exact y8d (z7g a) h
    ·cases h
   ·cases h
  ·exact z8y a h
theorem cl_try {r:Int} {up:List TE} {p:List Int} (a:clT C x) (h:f.try5 r x up p=some y):clT C y:=by
 unfold FnS.try5 at h;split at h
 ·split at h
  ·exact cl_fold a h
  split at h
  ·cases h;exact z7g a
  split at h
  ·exact j1a a h
  split at h
  ·exact q1d a h
  ·exact z8y a h
 ·cases h
end
theorem y8e {y:TE} (g:clT C y):∀(p:List Int) {e:TE},clT C e->clT C (zY e p y)
 | [],e,_=>g
 | i::p,e,c=>by
  rw [zY];split
  ·refine q1e (fun h=>((dW e).1 c).1 h) (fun b hb=>?_) (fun b hb=>oI c hb)
   replace hb:b∈(match e.arms[i.toNat]? with | some a=>e.arms.set i.toNat (.mk a.con a.vars (zY a.body p y)) | none=>e.arms):=hb;cases f:e.arms[i.toNat]? with
   | none=>rw [f] at hb;exact dE c hb
   | some a=>
    rw [f] at hb;rcases List.mem_or_eq_of_mem_set hb with hb | rfl
    ·exact dE c hb
    ·exact y8e g p (dE c (mgQ f))
  ·refine q1e (fun h=>((dW e).1 c).1 h) (fun b hb=>dE c hb) (fun b hb=>?_)
   replace hb:b∈(match e.body with | b::_=>[zY b p y] | []=>[]):=hb
   match d:e.body with
   | []=>rw [d] at hb;cases hb
   | z::l=>
    rw [d] at hb;simp only [List.mem_singleton] at hb;subst hb;exact y8e g p (oI c (by rw [d];exact msQ))
theorem qY {P:Program} {n m:Nat} {r:Option Nat} {E:List (Nat×Value)} {a:Act} {Φ:Fz} {K:List Res} {w:World} {id:Nat} {l:List Oper} {Q:Exit->Act->World->Prop} (kd:List Nat) (p:Plan) (K':List Res) (J:EnvR n E [] a) (N:Mem Φ K w) (x:P.follows .mixedOrders=true) (j:tN l.toArray kd p=true) (q:∀r∈K',r∈K)
  (t:l.all (fun o=>match o.op with | .defer _=>false | _=>true)=true)
  (h:∀w,Mem Φ K w->zU P .any l.toArray (Sees Φ K') kd (fun c w=>∀a:Act,a.defers=[]->Q (.panic c) a w) (Q .normal) p a w):(Code.region id l.toArray true).wpIn (FO r) m P Q a w:=by
 have hm':=N.drew;have h:=h _ hm';simp only [tN,baQ,beq_iff_eq] at j;obtain ⟨⟨⟨O,e⟩,hl⟩,f⟩:=j;refine wpIn_region_any x (kS (Inv:=fun a=>a.defers=[]) (kd:=kd) (B:=Sees Φ K') (Qp:=fun c w=>∀a:Act,a.defers=[]->Q (.panic c) a w) (Q:=Q .normal) (fun _ i o hi c s=>?_) (fun i o a v hi h=>?_) (fun _ _ h=>h) (fun c a w b h=>h a b) _ _ _ _ J.defs (fun _=>⟨hm'.fz,fun r u=>hm'.own r (q r u)⟩) ?_)
 ·have k:l[i]? = some o:=by simpa using hi
  have g:=List.all_eq_true.1 t o (mgQ k);rw [s] at g;cases g
 ·cases b:o.dst with
  | none=>simpa [Act.put,b] using h
  | some d=>simpa [Act.put,b] using h
 ·have:=xR O p _ _ _ e f h
  rw [hl] at this;exact this
section
variable {P:Program} {n:Nat} {E:List (Nat×Value)} {a:Act} {Φ:Fz} {K:List Res} {fn:Func} {R:Ending->World->Prop}
theorem panX {ds:List Nat} {w:World} {c:List PanicEntry} (f:a.defers=aQ ds) (N:Mem Φ (yV ds++K) w) (h:∀w',Mem Φ K w'->R (.panicked c) w'):xU P fn R (.panic c) a w:=by
 show mL P fn a.tmps R a.defers (.panicking c) w;rw [f];refine oO (by intro h;cases h) N fun w' hm'=>?_;intro fr cs b d g e i;exact ⟨.panicked c,w',fr,h w' hm',.refl _ _,rfl,b,d,fn,e⟩
theorem Mem.dropL {Φ:Fz} {w:World} {C:List Res}:∀{A:List Res},Mem Φ (A++C) w->Mem Φ C w
 | [],h=>h
 | _::A,h=>Mem.dropL (A:=A) h.tail
theorem sI {ds:List Nat} {w:World} {c:List PanicEntry} (A:List Res) (b:a.defers=aQ ds) (N:Mem Φ (A++(yV ds++K)) w) (h:∀w',Mem Φ K w'->R (.panicked c) w'):xU P fn R (.panic c) a w:=panX b N.dropL h
theorem y9p {ds:List Nat} {w:World} {t T b:Nat} {cs:List Value} {T0:TypeId} (J:EnvR n E (aQ ds) a) (e:fn.results=#[.cell t T]) (f:get E t=some (.pointer (some ⟨b,0,none⟩))) (d:AggT P T) (c:SizeT P T cs.length)
  (N:Mem Φ (yV ds++(.blk b (ob cs T0)::K)) w) (h:∀w',Mem Φ K w'->R (.returned (.agg cs.toArray)) w'):xU P fn R .ret a w :=
 retX J N fun w' hm'=>⟨_,dZ (i:=0) J hm'.toSees e f rfl d c rfl,h _ hm'.tail⟩
end
theorem j9q:(prog.fieldsOf 75).toList=[{ name := "Name",type:=9,offset:=0,embedded:=false,tag := "",pkgPath := "",byteOffset:=0 },{ name := "Num",type:=3,offset:=1,embedded:=false,tag := "",pkgPath := "",byteOffset:=16 }]:=by
 simp [Program.fieldsOf,underlying75]
theorem und75:prog.underlying 75=some (.struct (prog.fieldsOf 75)):=by simp [Program.fieldsOf,underlying75]
theorem stood75:prog.stoodInHeld 75=false:=by kernel_rfl
theorem plain9:prog.plainKey 9=true:=by simp [Program.plainKey,underlying9]
theorem plain3:prog.plainKey 3=true:=by simp [Program.plainKey,underlying3]
theorem guard75:prog.eqGuardType prog.depth 75=false:=by kernel_rfl
theorem q9j (w:World) (a b:Atom):(Op.equal 75 (.agg #[.string a.name,.int .i64 a.num]) (.agg #[.string b.name,.int .i64 b.num])).run prog w=.ok (decide (a=b)) w:=by
 unfold Op.equal;rw [show Op.maxDepth=(Op.maxDepth - 2+1)+1 from rfl,run_equalIn_struct w _ 75 _ _ und75 stood75,j9q];have k:=fun (s t:Bs)=>run_equalIn_string w (Op.maxDepth - 2) 9 s t underlying9;have g:=fun (i j:Int)=>run_equalIn_int w (Op.maxDepth - 2) 3 .i64 .i64 i j underlying3;have o:=fun (s:Bs) (i:Int)=>run_part_plain (P:=prog) w plain9 (xs:=#[.string s,.int .i64 i]) (off:=0) (v:=.string s) (by simp);have n:=fun (s:Bs) (i:Int)=>run_part_plain (P:=prog) w plain3 (xs:=#[.string s,.int .i64 i]) (off:=1) (v:=.int .i64 i) (by simp);have q:∀(s:Bs) (i:Int),(part 9 #[Value.string s,.int .i64 i] 0).run prog w=.ok (.string s) w:=o;have p:∀(s:Bs) (i:Int),(part 3 #[Value.string s,.int .i64 i] 1).run prog w=.ok (.int .i64 i) w:=n
 simp [Op.eqFields,Sem.run_bind,q,p,k,g,Result.andThen]
 cases a;cases b;rename_i e l f m;by_cases c:e=f
 ·by_cases d:l=m
  ·simp [c,d]
  ·simp [c,d]
 ·have:¬ByteArray.toList e=ByteArray.toList f:=fun h=>c (ByteArray.ext (by rw [ByteArray.toList_eq,ByteArray.toList_eq] at h;exact Array.toList_inj.1 h))
  simp [c,this]
section
variable {n:Nat} {E:List (Nat×Value)} {D:List Deferred} {a:Act} {w:World} {ty:TypeId}
theorem cX {t':TypeId} {x y:Operand} {p q:Atom} {b:Bool} (J:EnvR n E D a) (c:ev E x=some (.agg #[.string p.name,.int .i64 p.num])) (d:ev E y=some (.agg #[.string q.name,.int .i64 q.num])) (hb:decide (p=q)=b) :
  Ok prog a (.binOp .eql 75 x y t') ty w (.bool b):=by
 subst hb;refine jB J c d ?_ ?_
 ·simp [eqGuard,Sem.run_bind,guard75,Result.andThen]
 ·simp only [binOp,Sem.run_bind,q9j,Result.andThen_ok];rfl
end
theorem x3j {Φ:Fz} {K:List Res} {w:World} {b1 b4 bp mc mf ms:Nat} {tc:List Value} {T:Trc} (Y:RTrc Φ tc T) (G:Glob Φ) (N:Mem Φ (.blk b1 (ob tc 26)::.blk b4 (ob [.pointer (some ⟨bp,0,none⟩)] 105)::.blk bp (ob (tc++[.map (some mc),.map (some mf),.map (some ms)]) 160)::.mp mc []::.mp mf []::.imp ms []::K) w) :
  Calls prog 82 #[.pointer (some ⟨b1,0,none⟩),.pointer (some ⟨b4,0,none⟩)] w (fun ee w'=>Out (dem (zM T)) (fun _=>∃y:Fz×List (Int×Int),ee=.returned (.tuple #[])/\(Φ.Le y.1/\RProg y.1 ⟨bp,0,none⟩ T ms/\wY T T.funs []=some y.2)/\Mem y.1 (.blk b1 (ob tc 26)::.blk b4 (ob [.pointer (some ⟨bp,0,none⟩)] 105)::.imp ms (xZ y.2)::K) w') (fun _=>ee=.panicked jK/\Mem Φ (.blk b1 (ob tc 26)::.blk b4 (ob [.pointer (some ⟨bp,0,none⟩)] 105)::K) w')):=by
 have d:=Y;obtain ⟨p3,c4,p9,e1,w1,f1,x1,c22,rfl,C0,h2,h8,q,j1,t1,u1,H0,O0,I0,s,J0,P0⟩:=RTrc.fm Y;replace N:=N.nf;refine zJ func82 ntmps82 fun Q hQ a J=>?_;by_cases k1:T.cons.length<=300;by_cases l1:T.inputs.length<=6;by_cases o1:T.funs.length<=400;refine Qq (fun a J=>?_) (o:=by exact fun J O=>mZ (i:=T.outputs.length) (j:=6) J rfl rfl);refine yF call83 (fun n0 w l N a J=>?_) (fun n0 w l N=>?_) (c:=yC (b:=(decide (T.outputs.length<=6))) N);refine Alc fun c0 w N a J=>?_;refine Sto 0 fun w N a J=>?_;have A:T.cons.length<=300/\T.inputs.length<=6/\T.funs.length<=400/\T.outputs.length<=6:=by have h_:=of_decide_eq_true (zC l);omega
 refine go fun a J=>?_;refine yO (J.ks [0,1,2,30]) N (fun R mm a w=>∃(i:Nat) (V:Nat),mm=T.funs.length - i/\R Φ [(31,.int .i64 i)] [(0,.blk c0 (ob [.int .i64 V] 3))] a w/\(pX T.funs 0=pX (T.funs.drop i) V/\V<=20000)) (T.funs.length - 0) ⟨0,0,rfl,⟨J.pk,N⟩,⟨rfl,Nat.zero_le _⟩⟩ ?_;clear N J;rintro mm a w ⟨i,V,B,⟨J,N⟩,g⟩ a1 H;replace N:=N.nf;by_cases E:i < T.funs.length;refine go fun a J=>?_;obtain ⟨C1,rfl,p0,t,w0,F0,L,P⟩:=q.el s E;obtain ⟨y1,c53,d1,rfl,p1,F,K0,Q0⟩:=RTFn.fm P;obtain ⟨z1,g1,A1,h1,B1,i1,rfl,D0,E0,q1,r1,s1,L0,R0,M0,S0,N0,U0⟩:=RTE.fm F;refine yF call84 (fun X w k N a J=>?_) (fun X w k N=>?_) (c:=size_ok p0.body (At.part3 L) F g.2 (by decide:(1:Nat)<=20001) N);refine go fun a J=>?_;refine H _ _ _ (by subst B;omega) ⟨(i+1),(X),rfl,⟨J.pk,N⟩,?_⟩;exact ⟨by rw [g.1,y6x t,zS k];rfl,y2q (zS k)⟩;replace N:=N.dl [5,4,3,2];rw [show zM T=false from q6y (by rw [g.1,y6x t,yK k];rfl),show dem false=.error () from rfl];exact ⟨rfl,N⟩;refine go fun a J=>?_;have S:pX T.funs 0=some V:=by rw [g.1,qV E];rfl
 replace N:=N.ar [] [5,5,5];refine yF call85 (fun o0 w n N a J=>?_) (fun o0 w n N=>?_) (c:=x1u d G N);refine go fun a J=>?_;replace N:=N.ar [] [2,2,2];have r:=N;clear N;obtain ⟨v,e,N,RP⟩:=q4c d (zC n) r;clear r;replace q:=q.mono RTFn.mono e;replace d:=RTrc.mono _ _ _ _ e d;replace G:=G.mono e;replace N:=N.nf;refine go fun a J=>?_;refine yO (J.ks [0,1,45]) N (fun R mm a w=>∃(C:Nat) (U:List (Int×Int)),mm=T.funs.length - C/\R v [(46,.int .i64 C)] [(3,.imp ms (xZ U))] a w/\(wY T T.funs []=wY T (T.funs.drop C) U)) (T.funs.length - 0) ⟨0,[],rfl,⟨J.pk,N⟩,rfl⟩ ?_;clear N J;rintro mm a w ⟨C,U,B,⟨J,N⟩,h⟩ c1 I;replace N:=N.nf;by_cases x:C < T.funs.length;refine Reg [2,1,2,1,1,0] [0,1,2] fun w N a J=>?_;refine go fun a J=>?_;obtain ⟨D1,rfl,E1,u,x0,G0,M,p⟩:=q.el s x;obtain ⟨V0,r0,q0,rfl,y0,D,f0,j0⟩:=RTFn.fm p;obtain ⟨X0,s0,Y0,t0,Z0,u0,rfl,d0,e0,z0,A0,B0,g0,k0,h0,l0,i0,m0⟩:=RTE.fm D;replace N:=N.pl 3;refine dB call86 (fun W Z w f z N a J=>?_) (fun W w f N=>?_) (c:=j0r (m:=U) RP M p G N);refine go fun a J=>?_;replace N:=N.ar [0] [3,3,3];refine I _ _ _ (by subst B;omega) ⟨(C+1),(Z.2.sites),rfl,⟨J.pk,N⟩,?_⟩;rw [h,q1u u,zS f,Option.bind_some,z.2];replace N:=N.le (e);replace N:=N.dl [0];rw [show zM T=false from q6x (by rw [h,q1u u,yK f];rfl),show dem false=.error () from rfl];exact ⟨rfl,N⟩;refine go fun a J=>?_;replace N:=N.dl [0];refine hQ _ _ _ (yN J results82 ?_);rw [show zM T=true from j5a A S RP.ok (by rw [h,qV x];rfl),show dem true=.ok () from rfl]
 exact ⟨(v,U),rfl,⟨e,RP,by rw [h,qV x];rfl⟩,N⟩;replace N:=N.dl [3,0];rw [show zM T=false from q1c (zP n),show dem false=.error () from rfl];exact ⟨rfl,N⟩;replace N:=N.dl [5,4,3,2];have v1:=of_decide_eq_false (zP l);rw [show zM T=false from uD (by omega),show dem false=.error () from rfl];exact ⟨rfl,N⟩;refine qI call83 (fun w N=>?_) (c:=zI N);replace N:=N.dl [5,4,3,2];rw [show zM T=false from uD (by omega),show dem false=.error () from rfl];exact ⟨rfl,N⟩;refine qI call83 (fun w N=>?_) (c:=zI N);replace N:=N.dl [5,4,3,2];rw [show zM T=false from uD (by omega),show dem false=.error () from rfl];exact ⟨rfl,N⟩;refine qI call83 (fun w N=>?_) (c:=zI N);replace N:=N.dl [5,4,3,2];rw [show zM T=false from uD (by omega),show dem false=.error () from rfl];exact ⟨rfl,N⟩
end Go.Sw
