import GoSem.Instr.MapUpdate
import Derived.Laws.StructEq
import Derived.Test.YtghdfphedgcpdaaGreatDoorProg
import Derived.Test.YtghdfphedgcpdaaGreatDoorZ01
import Derived.Test.YtghdfphedgcpdaaGreatDoorZ02
import Derived.Test.YtghdfphedgcpdaaGreatDoorZ04
import Derived.Test.YtghdfphedgcpdaaGreatDoorZ06
import Derived.Test.YtghdfphedgcpdaaGreatDoorZ10
set_option linter.unusedVariables false
set_option linter.unusedSimpArgs false
namespace Go.Sw
section
variable {P:Program} {Φ:Fz}
def Fires (P:Program) (y:Value) (vs:List Value) (w:World) (R:Ending→World→Prop):Prop :=
 (∃f fs cs,y=.func (.func f) (List.toArray fs) (List.toArray cs)∧(∀args w,(callFunc f args).run P w=.ok (.enter f args) w)∧Calls P f (fs++vs++cs).toArray w R) ∨
 (∃l,y=.func (.yield l) #[] #[]∧YieldAt Fence.wide 2 P l vs.toArray w R)
theorem Fires.mono {y:Value} {vs:List Value} {w:World} {R R':Ending→World→Prop} (h:Fires P y vs w R) (hr:∀e w',R e w'→R' e w'):Fires P y vs w R':=by
 rcases h with ⟨f,fs,cs,h1,h2,h3⟩ | ⟨l,h1,fn,tmps,assign,body,h2,h3⟩
 ·exact .inl ⟨f,fs,cs,h1,h2,h3.mono hr⟩
 ·exact .inr ⟨l,h1,fn,tmps,assign,body,h2,h3.mono hr⟩
structure Takes {α β:Type} (P:Program) (Φ:Fz) (y:Value) (arg:α→List Value) (items:List α) (KY:List α→β→List Res):Prop where
 fn:∃f fs cs,y=.func f fs cs
 go:∀pre x post z K0 w,items=pre++x::post→Mem Φ (K0++KY pre z) w→Fires P y (arg x) w (fun e w'=>e=.returned (.bool true)∧∃z',Mem Φ (K0++KY (pre++[x]) z') w')
end
section
variable {P:Program} {n m:Nat} {E:List (Nat×Value)} {D:List Deferred} {a:Act} {w:World} {ops:Array Oper} {rest:List Oper} {Q:Exit→Act→World→Prop} {r:Option Nat} {d:Nat} {v:Value} {op:Op} {ty:TypeId} {pos:String} {aft:Array Edge}
theorem pN (h:Q .normal a w):wpListIn (FO r) m P ops Q [] a w:=wpListIn_nil h
theorem vH {y:Operand} {xs:Array Operand} {vs:List Value} {ts:Array TypeId} {yv u:Value} {J:World→Prop} {Kn:Value→World→Prop} {Qp:List PanicEntry→World→Prop} {dst:Option Tmp} {g:Option (Nat×Bool)} (he:EnvR n E D a) (hy:ev E y=some yv) (hx:evs E xs.toList=some vs)
  (hr:Fires P yv vs w (fun e w'=>e=.returned u∧J w')) (k:∀w',J w'→Kn u w'):Oper.effR P ⟨dst,.call { callee:=.value y,args:=xs,argTypes:=ts },ty,pos,aft,g⟩ a w Kn Qp:=by
 unfold Oper.effR
 rcases hr with ⟨f,fs,cs,rfl,hf,hc⟩ | ⟨l,rfl,fn,tmps,assign,body,h1,h2⟩
 ·have h3:(execOp a.eval ⟨dst,.call { callee:=.value y,args:=xs,argTypes:=ts },ty,pos,aft,g⟩).run P w=.ok (.enter f (fs++vs++cs).toArray) w:=by
   simp only [execOp,resolve,Sem.run_bind,he.evsA hx,he.ev hy,Deferred.ofValue]
   have:=hf (fs++vs++cs).toArray w
   simp only [invoke]
   simpa [Sem.run_bind,Result.andThen] using this
  rw [h3]
  refine hc.mono fun e w' he' =>?_
  obtain ⟨rfl,hJ⟩:=he'
  exact k _ hJ
 ·have h3:(execOp a.eval ⟨dst,.call { callee:=.value y,args:=xs,argTypes:=ts },ty,pos,aft,g⟩).run P w=.ok (.round l fn tmps assign body) w:=by
   simp only [execOp,resolve,Sem.run_bind,he.evsA hx,he.ev hy,Deferred.ofValue]
   simp [invoke,Sem.run_bind,Result.andThen,h1]
  rw [h3]
  refine h2.mono fun e w' he' =>?_
  obtain ⟨rfl,hJ⟩:=he'
  exact k _ hJ
theorem d_fire {kd:List Nat} {B:World→Prop} {Qp:List PanicEntry→World→Prop} {Q:Act→World→Prop} {p:Plan} {i:Nat} {ops:Array Oper} (he:EnvR n E D a) (hi:ops[i]? = some ⟨some d,op,ty,pos,aft,none⟩) (hk:qA kd i=0) (hd:Nat.blt d n=true)
  (h:Oper.effR P ⟨some d,op,ty,pos,aft,none⟩ a w (fun v w'=>(cY .any kd ⟨some d,op,ty,pos,aft,none⟩=true→B w')∧∀a,EnvR n ((d,v)::E) D a→zW P .any ops B kd Qp Q p a w') Qp):zW P .any ops B kd Qp Q (.e i p) a w:=by
 unfold zW vC
 simp only [hi]
 rw [if_pos (mQ rfl _),if_pos hk]
 exact jV h (fun v w' hv=>⟨hv.1,hv.2 _ (he.put hd)⟩) (fun _ _ h=>h)
theorem d_fireg {kd:List Nat} {B:World→Prop} {Qp:List PanicEntry→World→Prop} {Q:Act→World→Prop} {p:Plan} {i:Nat} {ops:Array Oper} {j t:Nat} {b:Bool} (he:EnvR n E D a) (hi:ops[i]? = some ⟨some d,op,ty,pos,aft,some (j,b)⟩) (hj:ops[j]?.bind (·.dst)=some t) (hv:get E t=some (.bool b)) (hk:qA kd i=0) (hd:Nat.blt d n=true)
  (h:Oper.effR P ⟨some d,op,ty,pos,aft,some (j,b)⟩ a w (fun v w'=>(cY .any kd ⟨some d,op,ty,pos,aft,some (j,b)⟩=true→B w')∧∀a,EnvR n ((d,v)::E) D a→zW P .any ops B kd Qp Q p a w') Qp):zW P .any ops B kd Qp Q (.e i p) a w:=by
 unfold zW vC
 simp only [hi]
 rw [if_pos (mH he rfl hj hv),if_pos hk]
 exact jV h (fun v w' hv=>⟨hv.1,hv.2 _ (he.put hd)⟩) (fun _ _ h=>h)
theorem tH {o:Oper} (he:EnvR n E D a) (hd:o.dst=some d) (hlt:Nat.blt d n=true) (hg:o.guard=none) (hop:∀c,o.op≠.defer c)
  (h:Oper.effR P o a w (fun v w'=>∀a,EnvR n ((d,v)::E) D a→wpListIn (FO r) m P ops Q rest a w') (fun _ _=>False)):wpListIn (FO r) m P ops Q (o::rest) a w:=by
 refine wpListIn_plain hg fun L hL=>sM (fun _=>hop) (jV h (fun v w' hv=>hL _ _ ?_) (fun c w' hc=>hc.elim))
 rw [hd];exact hv _ (he.put hlt)
theorem tG {o:Oper} {j t:Nat} {b:Bool} (he:EnvR n E D a) (hd:o.dst=some d) (hlt:Nat.blt d n=true) (hg:o.guard=some (j,b)) (hj:ops[j]?.bind (·.dst)=some t) (hv:get E t=some (.bool b)) (hop:∀c,o.op≠.defer c)
  (h:Oper.effR P o a w (fun v w'=>∀a,EnvR n ((d,v)::E) D a→wpListIn (FO r) m P ops Q rest a w') (fun _ _=>False)):wpListIn (FO r) m P ops Q (o::rest) a w:=by
 refine wpListIn_step fun L hL =>?_
 rw [if_pos (mH he hg hj hv)]
 refine sM (fun _=>hop) (jV h (fun v w' hv=>hL _ _ ?_) (fun c w' hc=>hc.elim))
 rw [hd];exact hv _ (he.put hlt)
theorem z9u {o:Oper} {j t:Nat} {b:Bool} {v:Value} (he:EnvR n E D a) (hd:o.dst=some d) (hg:o.guard=some (j,b)) (hlt:Nat.blt d n=true) (hj:ops[j]?.bind (·.dst)=some t) (hv:get E t=some v) (hb:y8g v b=true)
  (k:∀a,EnvR n ((d,undef)::E) D a→wpListIn (FO r) m P ops Q rest a w):wpListIn (FO r) m P ops Q (o::rest) a w:=by
 unfold wpListIn
 rw [if_neg (by rw [uW he hg hj hv hb];simp),hd]
 exact ⟨fun f _=>FO.fn f,k _ (he.put hlt)⟩
theorem z7v {v:Value} {Kn:Value→World→Prop} {Qp:List PanicEntry→World→Prop} {dst:Option Tmp} {g:Option (Nat×Bool)} (ho:Ok P a op ty w v) (k:Kn v w):Oper.effR P ⟨dst,op,ty,pos,aft,g⟩ a w Kn Qp:=(vN ho k).toR
theorem blkI {id:Nat} {c:Code} (h:c.wpIn (FO r) m P (Exit.inBlock id Q) a w):(Code.block id c).wpIn (FO r) m P Q a w:=wpIn_block h
theorem exitI {id:Nat} (h:Q (.exit id) a w):(Code.exit id).wpIn (FO r) m P Q a w:=wpIn_exit h
theorem skipI (h:Q .normal a w):Code.skip.wpIn (FO r) m P Q a w:=wpIn_skip h
theorem regI {id:Nat} {l:List Oper} (h:wpListIn (FO r) m P l.toArray Q l a w):(Code.region id l.toArray false).wpIn (FO r) m P Q a w:=wpIn_region_lit h
theorem sqI {x y:Code} (h:∀L:Act→World→Prop,(∀a w,y.wpIn (FO r) m P Q a w→L a w)→x.wpIn (FO r) m P (Exit.then L Q) a w):(Code.seq x y).wpIn (FO r) m P Q a w:=wpIn_seq_k h
theorem if_tI {c:Operand} {x y:Code} (he:EnvR n E D a) (hc:ev E c=some (.bool true)) (h:x.wpIn (FO r) m P Q a w):(Code.cond c x y).wpIn (FO r) m P Q a w:=wpIn_cond_true (he.ev hc) h
theorem if_fI {c:Operand} {x y:Code} (he:EnvR n E D a) (hc:ev E c=some (.bool false)) (h:y.wpIn (FO r) m P Q a w):(Code.cond c x y).wpIn (FO r) m P Q a w:=wpIn_cond_false (he.ev hc) h
end
section
variable {P:Program} {Φ:Fz} {K:List Res} {w:World}
theorem y5z {β:Type} {l:Nat} {r:Loop} {tmps:Array Value} {KO:β→List Res} (hst:r.state=.ready) (hpd:r.pending=none)
  (hA:r.assign.wpIn (FO (some l)) 2 P (Exit.then (fun a1 w1=>∃K1,Mem Φ (.blk l (.loop r)::K1) w1∧∀w2,Mem Φ (.blk l (.loop { r with state:=.busy })::K1) w2 →
   r.body.wpIn (FO (some l)) 2 P (fun e _ w=>e=.normal∧∃z,Mem Φ (.blk l (.loop { r with state:=.busy })::KO z) w) a1 w2) (fun _ _ _=>False)) ⟨tmps,[]⟩ w) :
  RoundIn Fence.wide 2 P l r.fn tmps r.assign r.body w (fun e w'=>e=.returned (.bool true)∧∃z,Mem Φ (.blk l (.loop r)::KO z) w'):=by
 refine roundIn_of_wpIn trivial (Code.wpIn_mono (fun e a1 w1 h =>?_) hA)
 cases e with
 | normal =>
  obtain ⟨K1,h2,h3⟩:=h
  have hl:w1.heap[l]? = some (.loop r):=h2.own _ List.mem_cons_self
  refine ⟨_,run_beginRound hl hst,?_⟩
  refine Code.wpIn_mono (fun e a2 w2 h =>?_) (h3 _ (h2.putObj (i:=0) (o':=.loop { r with state:=.busy }) rfl))
  obtain ⟨rfl,z,h4⟩:=h
  have hl2:w2.heap[l]? = some (.loop { r with state:=.busy }):=h4.own _ List.mem_cons_self
  refine ⟨_,_,run_endRound none hl2,rfl,z,?_⟩
  have h5:=h4.putObj (i:=0) (o':=.loop { ({ r with state:=.busy }:Loop) with state:=.ready,pending:=none }) rfl
  have h6:({ ({ r with state:=.busy }:Loop) with state:=.ready,pending:=none }:Loop)=r:=by cases r;simp only at hst hpd;subst hst;subst hpd;rfl
  simp only [wK,h6] at h5;simpa [h6] using h5
 | exit id=>exact h.elim
 | goto l=>exact h.elim
 | ret=>exact h.elim
 | panic c=>exact h.elim
 | outgrown=>exact h.elim
theorem z5j {α β:Type} {n gf p:Nat} {E:List (Nat×Value)} {Dd:List Deferred} {a:Act} {g:Operand} {assign body:Code} {Q:Exit→Act→World→Prop} {fs cs:List Value}
  (items:List α) (arg:α→Value) (KX:List Res) (KV:List α→β→List Res) (z0:β)
  (he:EnvR n E Dd a) (hm:Mem Φ (KX++KV [] z0) w) (hg:ev E g=some (.func (.func gf) fs.toArray cs.toArray)) (hf:∀args w,(callFunc gf args).run P w=.ok (.enter gf args) w) (hp:Nat.blt p n=true)
  (hr:∀pre x post z l o1 o2 K' a w,items=pre++x::post→EnvR n ((p,arg x)::E) [] a→Mem Φ (.blk l o1::(KV pre z++K')) w →
   assign.wpIn (FO (some l)) 2 P (Exit.then (fun a1 w1=>∃K1,Mem Φ (.blk l o1::K1) w1∧∀w2,Mem Φ (.blk l o2::K1) w2 →
    body.wpIn (FO (some l)) 2 P (fun e _ w=>e=.normal∧∃z,Mem Φ (.blk l o2::(KV (pre++[x]) z++K')) w) a1 w2) (fun _ _ _=>False)) a w)
  (hc:∀(y:Value) (KY:List α→β→List Res) (w:World),Takes P Φ y (fun x=>[arg x]) items KY→Mem Φ (KX++KY [] z0) w→Calls P gf (fs++[y]++cs).toArray w (fun e w'=>∃v z,e=.returned v∧Mem Φ (KX++KY items z) w'))
  (kn:∀Dk z a w,EnvR n E ({ target:=.collected Dk,args:=#[] }::Dd) a→Mem Φ (.blk Dk (.deferred (some []))::(KX++KV items z)) w→Q .normal a w):(Code.rangeFunc g #[p] assign body).wp P Q a w:=by
 refine z3m (β:=β) (δ:=Unit) (F1:=fun _=>Φ) (KO:=fun z=>KX++KV items z) (KE:=fun _=>[]) (G:=fun _=>True) (B:=fun _ _=>False) he hm hg hf (fun Dk l r w hps has hbo hst hpd hE hm =>?_) (fun Dk z a w _ he hm=>kn Dk z a w he hm) (fun _ _ _ _ _ h=>h.elim)
 subst has;subst hbo
 have key:=hc (.func (.yield l) #[] #[]) (fun pre z=>.blk l (.loop r)::.blk Dk (.deferred (some []))::KV pre z) w ⟨⟨_,_,_,rfl⟩,fun pre x post z K0 w hit hm=>.inr ⟨l,rfl,?_⟩⟩ ?_
 ·refine key.mono fun e w' h =>?_
  obtain ⟨v,z,rfl,h⟩:=h
  refine .inl ⟨v,z,rfl,trivial,h.perm ?_⟩
  exact (List.perm_middle.trans (List.Perm.cons _ List.perm_middle))
 ·have hm1:Mem Φ (.blk l (.loop r)::(KV pre z++(.blk Dk (.deferred (some []))::K0))) w:=hm.perm (List.perm_middle.trans (List.Perm.cons _ (List.perm_middle.trans ((List.Perm.cons _ List.perm_append_comm).trans List.perm_middle.symm))))
  have hl:w.heap[l]? = some (.loop r):=hm1.own _ List.mem_cons_self
  refine ⟨r.fn,r.tmps.setIfInBounds p (arg x),r.assign,r.body,?_,?_⟩
  ·rw [run_yield hl (by rw [hps];rfl),hps]
   simp
  ·have he2:EnvR n ((p,arg x)::E) [] ⟨r.tmps.setIfInBounds p (arg x),[]⟩:=hE.put (d:=p) hp
   have h:=y5z (P:=P) (Φ:=Φ) (tmps:=r.tmps.setIfInBounds p (arg x)) (KO:=fun z=>KV (pre++[x]) z++(.blk Dk (.deferred (some []))::K0)) hst hpd (hr pre x post z l _ _ _ _ _ hit he2 hm1)
   refine h.mono fun e w' hh =>?_
   obtain ⟨h1,z',h2⟩:=hh
   refine ⟨h1,z',h2.perm ?_⟩
   exact ((List.Perm.cons _ ((List.perm_middle.trans (List.Perm.cons _ List.perm_append_comm)).trans List.perm_middle.symm)).trans List.perm_middle.symm)
 ·refine hm.perm ?_
  exact ((List.Perm.cons _ List.perm_middle.symm).trans List.perm_middle.symm)
end
def z0e (ds:List Nat):List Deferred:=ds.map fun d=>{ target:=.collected d,args:=#[] }
def xX (ds:List Nat):List Res:=ds.map fun d=>.blk d (.deferred (some []))
section
variable {P:Program} {Φ:Fz} {K:List Res} {n:Nat} {E:List (Nat×Value)} {a:Act} {fn:Func} {R:Ending→World→Prop}
theorem Mem.rot {A B C D:List Res} {w:World} (h:Mem Φ (A++((B++C)++D)) w):Mem Φ (A++((D++B)++C)) w:=h.perm (List.Perm.append_left A (by
 rw [List.append_assoc D B C];exact List.perm_append_comm))
theorem Mem.unrot {A B C D:List Res} {w:World} (h:Mem Φ (A++((D++B)++C)) w):Mem Φ (A++((B++C)++D)) w:=h.perm (List.Perm.append_left A (by
 rw [List.append_assoc D B C];exact List.perm_append_comm))
theorem Mem.mid {A B C:List Res} {w:World} (h:Mem Φ (A++(B++C)) w):Mem Φ (B++(A++C)) w:=h.perm (by
 rw [← List.append_assoc,← List.append_assoc];exact (List.perm_append_comm).append_right C)
theorem z2h {tmps:Array Value} {u:FrameMode} (hu:u≠.run):∀{ds:List Nat} {w:World},Mem Φ (xX ds++K) w→(∀w',Mem Φ K w'→pZ P fn tmps R [] u w')→pZ P fn tmps R (z0e ds) u w
 | [],w,hm,h=>h w hm
 | d::ds,w,hm,h=>by
  have h1:w.heap[d]? = some (.deferred (some [])):=hm.own _ List.mem_cons_self
  exact mY hu h1 (z2h hu (hm.putObj (i:=0) (o':=.deferred none) rfl).tail h)
theorem retXr {ds:List Nat} {w:World} (he:EnvR n E (z0e ds) a) (hm:Mem Φ (xX ds++K) w) (h:∀w',Mem Φ K w'→∃x,(results fn a.tmps).run P w'=.ok x w'∧R (.returned x) w'):pZ P fn a.tmps R a.defers .returning w:=by
 rw [he.defs]
 refine z2h (by intro h;cases h) hm fun w' hm'=>cZ ?_
 exact h w' hm'
theorem retX {ds:List Nat} {w:World} (he:EnvR n E (z0e ds) a) (hm:Mem Φ (xX ds++K) w) (h:∀w',Mem Φ K w'→∃x,(results fn a.tmps).run P w'=.ok x w'∧R (.returned x) w'):mK P fn R .ret a w:=retXr he hm h
theorem retXN {ds:List Nat} {w:World} (he:EnvR n E (z0e ds) a) (hm:Mem Φ (xX ds++K) w) (h:∀w',Mem Φ K w'→∃x,(results fn a.tmps).run P w'=.ok x w'∧R (.returned x) w'):mK P fn R .normal a w:=retXr he hm h
theorem retX0N {ds:List Nat} {w:World} (he:EnvR n E (z0e ds) a) (hr:fn.results=#[]) (hm:Mem Φ (xX ds++K) w) (h:∀w',Mem Φ K w'→R (.returned (.tuple #[])) w'):mK P fn R .normal a w :=
 retXN he hm fun w' hm'=>⟨.tuple #[],by simp [results,hr],h w' hm'⟩
theorem retX1 {ds:List Nat} {w:World} {t:Nat} {v:Value} (he:EnvR n E (z0e ds) a) (hr:fn.results=#[.tmp t]) (hv:get E t=some v) (hm:Mem Φ (xX ds++K) w) (h:∀w',Mem Φ K w'→R (.returned v) w'):mK P fn R .ret a w :=
 retX he hm fun w' hm'=>⟨v,by simp [results,hr,Array.getD_eq_getD_getElem?,he.env t v hv],h w' hm'⟩
theorem retX2 {ds:List Nat} {w:World} {t u:Nat} {v x:Value} (he:EnvR n E (z0e ds) a) (hr:fn.results=#[.tmp t,.tmp u]) (hv:get E t=some v) (hx:get E u=some x) (hm:Mem Φ (xX ds++K) w) (h:∀w',Mem Φ K w'→R (.returned (.tuple #[v,x])) w'):mK P fn R .ret a w :=
 retX he hm fun w' hm'=>⟨.tuple #[v,x],by simp [results,hr,Array.getD_eq_getD_getElem?,he.env t v hv,he.env u x hx],h w' hm'⟩
theorem retXc {ds:List Nat} {w:World} {t T b:Nat} {v:Value} {T0:TypeId} (he:EnvR n E (z0e ds) a) (hr:fn.results=#[.cell t T]) (hv:get E t=some (.pointer (some ⟨b,0,none⟩))) (hT:Scalar P T)
  (hm:Mem Φ (xX ds++.blk b (ob [v] T0)::K) w) (h:∀w',Mem Φ K w'→R (.returned v) w'):mK P fn R .ret a w :=
 retX he hm fun w' hm'=>⟨v,oX (i:=0) he hm'.toSees hr hv rfl rfl hT,h w' hm'.tail⟩
end
end Go.Sw

namespace Go.Sw
def inN (s:Bs):Bs:=(⟨#[105,110,46]⟩:Bs)++s
def wQ (s:Bs) (k:Nat):Bs:=s++⟨#[47]⟩++aM ((k:Nat):Int)
def vrN (f x:Bs):Bs:=f++⟨#[46]⟩++x
def z9k (s:Bs) (n:Nat):List Bs:=(List.range n).map (wQ s)
def y3f (d:Data):List Bs:=d.cons.flatMap fun x=>z9k x.name x.fields.length
def z0l (f:Fun):List Bs:=f.name::((f.params.map fun p=>vrN f.name p.name)++(zS f.body).map (vrN f.name))
def zN (c:Core):List Bs:=(c.inputs.map fun p=>inN p.name)++c.datas.flatMap y3f++c.funs.flatMap z0l
theorem any_mem {α:Type} [DecidableEq α] (x:α) (l:List α):(l.any fun y=>decide (y=x))=true↔x∈l:=by simp
instance (priority:=low) decMem {α:Type} [DecidableEq α] (x:α) (l:List α):Decidable (x∈l):=decidable_of_iff _ (any_mem x l)
def yW {α:Type} [DecidableEq α] (l:List α):List α:=l.foldl (fun a x=>if x∈a then a else a++[x]) []
theorem nQ {α:Type} [DecidableEq α] (l:List α) (x:α):yW (l++[x])=if x∈yW l then yW l else yW l++[x]:=by
 unfold yW;rw [List.foldl_append];rfl
theorem q1x {α:Type} [DecidableEq α]:yW ([]:List α)=[]:=rfl
theorem nG {α:Type} {p:List α→Prop} (h0:p []) (h1:∀l x,p l→p (l++[x])) (l:List α):p l:=by
 have:∀l:List α,p l.reverse:=by
  intro l
  induction l with
  | nil=>exact h0
  | cons x l ih=>rw [List.reverse_cons];exact h1 _ _ ih
 have h:=this l.reverse
 rwa [List.reverse_reverse] at h
theorem z2q {α:Type} [DecidableEq α] (l:List α):∀x,x∈yW l↔x∈l:=by
 refine nG (p:=fun l=>∀x,x∈yW l↔x∈l) (by simp [q1x]) (fun l y ih x =>?_) l
 rw [nQ]
 by_cases hy:y∈yW l
 ·rw [if_pos hy,ih,List.mem_append,List.mem_singleton]
  constructor
  ·exact .inl
  ·rintro (h | rfl)
   ·exact h
   ·exact (ih _).1 hy
 ·rw [if_neg hy,List.mem_append,List.mem_append,ih]
theorem dR {α:Type} [DecidableEq α] (l:List α):(yW l).length≤l.length:=by
 refine nG (p:=fun l=>(yW l).length≤l.length) (by simp [q1x]) (fun l y ih =>?_) l
 rw [nQ]
 by_cases hy:y∈yW l
 ·rw [if_pos hy,List.length_append];omega
 ·rw [if_neg hy,List.length_append,List.length_append];simp only [List.length_cons,List.length_nil];omega
mutual
def xG (f:Bs):Ex→List Bs
 | .mk k _ s args arms =>
  if k=2 then [vrN f s] else if k=3 then [inN s] else if k=5 then [s]
  else if k=6 then srcS f args
  else if k=8 then srcPs f args
  else if k=7 then srcH f args++srcPa f arms
  else []
def srcPs (f:Bs):List Ex→List Bs
 | []=>[]
 | x::l=>xG f x++srcPs f l
def srcH (f:Bs):List Ex→List Bs
 | []=>[]
 | x::_=>xG f x
def srcS (f:Bs):List Ex→List Bs
 | []=>[]
 | _::l=>srcH f l
def srcPa (f:Bs):List Arm→List Bs
 | []=>[]
 | .mk _ _ b::l=>xG f b++srcPa f l
end
def sQ (f:Bs) (e:Ex):List Bs:=yW (xG f e)
abbrev Flow:=Bs×Bs
def toP (f:Bs) (node:Bs) (e:Ex):List Flow:=(sQ f e).map fun s=>(s,node)
def z6n (f s:Bs):Nat→List Ex→List Flow
 | _,[]=>[]
 | k,a::l=>toP f (wQ s k) a++z6n f s (k+1) l
def dK (f s:Bs):List Param→List Ex→List Flow
 | p::ps,a::l=>toP f (vrN s p.name) a++dK f s ps l
 | _,_=>[]
def letF (f s:Bs):List Ex→List Flow
 | []=>[]
 | a::_=>toP f (vrN f s) a
def z7r (f s:Bs):Nat→List Bs→List Flow
 | _,[]=>[]
 | k,v::l=>(wQ s k,vrN f v)::z7r f s (k+1) l
def z1n (f:Bs) (l:List Arm):List Flow:=l.flatMap fun a=>z7r f a.con 0 a.vars
abbrev Pars:=List (Bs×List Param)
def kN (pm:Pars) (f:Bs) (e:Ex):List Flow :=
 if e.kind=4 then z6n f e.name 0 e.args
 else if e.kind=5 then dK f e.name ((zH pm e.name).getD []) e.args
 else if e.kind=6 then letF f e.name e.args
 else if e.kind=7 then z1n f e.arms
 else []
mutual
def vL (pm:Pars) (f:Bs):Ex→List Flow
 | .mk k n s args arms=>kN pm f (.mk k n s args arms)++flowPs pm f args++flowPa pm f arms
def flowPs (pm:Pars) (f:Bs):List Ex→List Flow
 | []=>[]
 | x::l=>vL pm f x++flowPs pm f l
def flowPa (pm:Pars) (f:Bs):List Arm→List Flow
 | []=>[]
 | .mk _ _ b::l=>vL pm f b++flowPa pm f l
end
mutual
def mE (pm:Pars):Ex→Prop
 | .mk k _ s args arms=>(k=5→args.length≤((zH pm s).getD []).length)∧(k=6→args≠[])∧flowOks pm args∧flowOka pm arms
def flowOks (pm:Pars):List Ex→Prop
 | []=>True
 | x::l=>mE pm x∧flowOks pm l
def flowOka (pm:Pars):List Arm→Prop
 | []=>True
 | .mk _ _ b::l=>mE pm b∧flowOka pm l
end
def dP (i:Param) (x:Bs):Nat→List Bs→List Flow
 | _,[]=>[]
 | k,t::l=>(if t=i.type then [(inN i.name,wQ x k)] else [])++dP i x (k+1) l
def z5v (i:Param) (d:Data):List Flow:=if d.name=i.type then d.cons.flatMap fun x=>dP i x.name 0 x.fields else []
def y7s (c:Core) (i:Param):List Flow:=c.datas.flatMap (z5v i)
def wZ (c:Core):Pars:=c.funs.foldl (fun m f=>qM m f.name f.params) []
def cQ (pm:Pars) (f:Fun):List Flow:=toP f.name f.name f.body++vL pm f.name f.body
def xJ (c:Core):List Flow:=c.inputs.flatMap (y7s c)++c.funs.flatMap (cQ (wZ c))
def jM (c:Core):List Flow:=yW (xJ c)
abbrev Next:=List (Bs×List Bs)
def oS (m:Next) (x:Flow):Next:=qM m x.1 ((zH m x.1).getD []++[x.2])
def xA (l:List Flow):Next:=l.foldl oS []
theorem hM (l:List Flow) (x:Flow):xA (l++[x])=oS (xA l) x:=by simp [xA]
abbrev From:=List (Bs×Bs)
def pX (x:Bs):List Bs→From→List Bs→From×List Bs
 | [],o,q=>(o,q)
 | n::l,o,q=>if (zH o n).isSome then pX x l o q else pX x l (qM o n x) (q++[n])
def oW (nx:Next):Nat→Nat→From→List Bs→From
 | 0,_,o,_=>o
 | g+1,i,o,q=>match q[i]? with
  | none=>o
  | some x=>oW nx g (i+1) (pX x ((zH nx x).getD []) o q).1 (pX x ((zH nx x).getD []) o q).2
def xN (l:List Bs):From:=l.foldl (fun m s=>qM m s ⟨#[]⟩) []
theorem q2p (l:List Bs) (s:Bs):xN (l++[s])=qM (xN l) s ⟨#[]⟩:=by simp [xN]
def kS (nx:Next) (l:List Bs):Nat:=l.length+(nx.flatMap (·.2)).length
def qO (nx:Next) (l:List Bs):From:=oW nx (kS nx l+1) 0 (xN l) l
def yN (c:Core):List Bs:=c.inputs.map fun p=>inN p.name
def kW (ns:List Bs) (o:From):List Bs:=ns.filter fun n=>(zH o n).isSome
structure Graph where
 core:Core
 nodes:List Bs
 flows:List Flow
 next:Next
def aI (c:Core):Graph:=⟨c,zN c,jM c,xA (jM c)⟩
end Go.Sw

namespace Go.Sw
open Go.Proofs.Tryz
open Go.Proofs
def tK (x:Flow):Value:=.agg (List.toArray [.string x.1,.string x.2])
def z4c:Nat→List Flow→List MapEntry
 | _,[]=>[]
 | i,x::l=>{ key:=tK x,val:=.bool true,born:=i }::z4c (i+1) l
def nM (l:List Flow):Array MapEntry:=(z4c 0 l).toArray
theorem y4m:∀(l:List Flow) (i:Nat) (x:Flow),z4c i (l++[x])=z4c i l++[{ key:=tK x,val:=.bool true,born:=i+l.length }]
 | [],i,x=>by simp [z4c]
 | y::l,i,x=>by
  rw [List.cons_append,z4c,y4m l (i+1) x,z4c,List.cons_append,List.length_cons,show i+1+l.length=i+(l.length+1) by omega]
set_option maxRecDepth 20000 in
theorem z5u:∃f0 f1,(prog.fieldsOf 95).toList=[f0,f1]∧(f0.name ≠ "_" ∧ f0.type=9∧f0.offset=0)∧(f1.name ≠ "_" ∧ f1.type=9∧f1.offset=1) :=
 ⟨_,_,rfl,⟨by decide,rfl,rfl⟩,by decide,rfl,rfl⟩
theorem z0k:prog.underlying 95=some (.struct (prog.fieldsOf 95)):=by kernel_rfl
theorem uU:prog.underlying 9=some .string:=by kernel_rfl
theorem y4p {w:World} (l:List Value) (i:Nat) (v:Value) (h:l[i]? = some v):(part 9 (List.toArray l) i).run prog w=.ok v w:=by
 simp [part,isAgg,run_underlying uU,h]
theorem eqFlow (w:World) (x y:Flow):(Op.equal 95 (tK x) (tK y)).run prog w=.ok (decide (x=y)) w:=by
 obtain ⟨s,u⟩:=x
 obtain ⟨s',u'⟩:=y
 obtain ⟨f0,f1,h0,h1,h2⟩:=z5u
 have hp:=@y4p w
 unfold Op.equal tK
 rw [show Op.maxDepth=9999+1 from rfl,run_equalIn_agg _ _ _ _ _ z0k (by kernel_rfl),h0]
 simp only [Op.eqFields,h1.1,h2.1,h1.2.1,h1.2.2,h2.2.1,h2.2.2,ne_eq,not_false_eq_true,if_true,Sem.run_bind,hp [.string s,.string u] 0 _ rfl,hp [.string s',.string u'] 0 _ rfl,hp [.string s,.string u] 1 _ rfl,hp [.string s',.string u'] 1 _ rfl,Result.andThen_ok,run_equalIn_string _ _ _ _ _ uU,sD]
 by_cases e1:s=s'
 ·have q1:=hp [.string s',.string u] 1 _ rfl
  have q2:=hp [.string s',.string u'] 1 _ rfl
  by_cases e2:u=u' <;> simp [e1,e2,Prod.mk.injEq,Sem.run_ite,Sem.run_bind,q1,q2,run_equalIn_string _ _ _ _ _ uU,sD,Result.andThen]
 ·simp [e1]
theorem y4c (w:World) (e:Bool) (x:Flow):(Instr.checkKey e 10000 95 (tK x)).run prog w=.ok () w:=by
 obtain ⟨f0,f1,h0,h1,h2⟩:=z5u
 have hp:=@y4p w
 have hc:∀(n:Nat) (v:Bs),(Instr.checkKey e (n+1) 9 (.string v)).run prog w=.ok () w:=fun n v=>by simp [Instr.checkKey,Sem.run_bind,run_underlying uU]
 have hF:prog.fieldsOf 95=#[f0,f1]:=by apply Array.ext';rw [h0]
 unfold tK
 rw [Instr.checkKey]
 simp only [Sem.run_bind,run_underlying z0k,Result.andThen_ok,hF]
 simp [Sem.run_bind,h1,h2,hp [.string x.1,.string x.2] 0 _ rfl,hp [.string x.1,.string x.2] 1 _ rfl,hc 9998,Result.andThen]
theorem y4l (w:World) (x:Flow):∀(l:List Flow) (i j:Nat),∃r,(Instr.findAsking 95 (tK x) (z4c i l) j).run prog w=.ok r w∧(r=none∧x∉l∨(∃q,r=some (q,.bool true))∧x∈l)
 | [],_,_=>⟨none,by simp [z4c,Instr.findAsking],.inl ⟨rfl,by simp⟩⟩
 | y::l,i,j=>by
  simp only [z4c,Instr.findAsking,Sem.run_bind,eqFlow,Result.andThen_ok]
  by_cases h:x=y
  ·exact ⟨some (j,.bool true),by simp [h],.inr ⟨⟨_,rfl⟩,by simp [h]⟩⟩
  ·obtain ⟨r,h1,h2⟩:=y4l w x l (i+1) (j+1)
   refine ⟨r,by simpa [h] using h1,?_⟩
   simpa [h] using h2
theorem j5o (x:Flow) (i:Nat):∀l:List Flow,Instr.findNow (.struct (prog.fieldsOf 95)) (tK x) (z4c i l) 0=if l=[] then some none else none
 | []=>rfl
 | y::l=>by simp [z4c,Instr.findNow,Instr.sameNow]
theorem q0u (w:World) (x:Flow) (l:List Flow):∃r,(Instr.findKey 95 (tK x) (nM l).toList).run prog w=.ok r w∧(r=none∧x∉l∨(∃q,r=some (q,.bool true))∧x∈l):=by
 simp only [Instr.findKey,Sem.run_bind,run_underlying z0k,Result.andThen_ok,nM,j5o]
 by_cases h:l=[]
 ·subst h;exact ⟨none,by simp,.inl ⟨rfl,by simp⟩⟩
 ·rw [if_neg h];exact y4l w x l 0 0
section
variable {n:Nat} {E:List (Nat×Value)} {D:List Deferred} {a:Act} {Φ:Fz} {K:List Res} {w:World}
variable {dst:Option Tmp} {ty:TypeId} {pos:String} {aft:Array Edge} {g:Option (Nat×Bool)}
variable {Kn:Value→World→Prop} {Qp:List PanicEntry→World→Prop}
theorem j4h (i:Nat) {x y:Operand} {b:Nat} {l:List Flow} {s:Flow} (he:EnvR n E D a) (hm:Sees Φ K w) (hx:ev E x=some (.map (some b))) (hy:ev E y=some (tK s)) (hK:qJ K i=some (.blk b (.map (nM l) l.length))) :
  Ok prog a (.lookup 136 x y false) ty w (.bool (decide (s∈l))):=fun _ _ _ _=>by
 have hb:w.heap[b]? = some (.map (nM l) l.length):=hm.own _ (qH hK)
 have h1:(getObj b).run prog w=.ok (.map (nM l) l.length) w:=by simp [getObj,Sem.run,hb]
 obtain ⟨r,h2,h3⟩:=q0u w s l
 simp only [execOp,he.ev hx,he.ev hy,Instr.lookup,Sem.run_bind,runUnderlying136,Result.andThen_ok,h1,Sem.run_pure,y4c,h2]
 rcases h3 with ⟨rfl,h3⟩ | ⟨⟨q,rfl⟩,h3⟩
 ·simp [h3,zeroValue4,Sem.run_bind,Result.andThen]
 ·simp [h3,Result.andThen]
theorem y7i {t:TypeId} (hm:Mem Φ K w) (k:∀b w',Mem Φ (.blk b (.map (nM []) ([]:List Flow).length)::K) w'→Kn (.map (some b)) w'):Oper.eff prog ⟨dst,.makeMap t none,ty,pos,aft,g⟩ a w Kn Qp:=by
 unfold Oper.eff
 have:(execOp a.eval ⟨dst,.makeMap t none,ty,pos,aft,g⟩).run prog w=.ok (.value (.map (some w.heap.size))) { w with heap:=w.heap.push (.map #[] 0) }:=by
  simp [execOp,Instr.makeMap]
 rw [this]
 refine k _ _ (hm.more rfl rfl (fun b hb=>pR hb) (by simp [Res.sat,nM,z4c]) (by simp [Res.foot]))
theorem z9c {P:Program} (i:Nat) {t kt et:TypeId} {x y z:Operand} {b:Nat} {l:List Flow} {s:Flow} (ht:(underlying t).run P w=.ok (.map kt et) w) (hc:(Instr.checkKey false 10000 kt (tK s)).run P w=.ok () w) (hf:(Instr.findKey kt (tK s) (nM l).toList).run P w=.ok none w)
  (he:EnvR n E D a) (hm:Mem Φ K w) (hx:ev E x=some (.map (some b))) (hy:ev E y=some (tK s)) (hz:ev E z=some (.bool true)) (hK:qJ K i=some (.blk b (.map (nM l) l.length)))
  (k:∀w',Mem Φ (wK K i (.blk b (.map (nM (l++[s])) (l++[s]).length))) w'→Kn undef w'):Oper.eff P ⟨dst,.mapUpdate t x y z,ty,pos,aft,g⟩ a w Kn Qp:=by
 have hb:w.heap[b]? = some (.map (nM l) l.length):=hm.own _ (qH hK)
 have h1:(getObj b).run P w=.ok (.map (nM l) l.length) w:=by simp [getObj,Sem.run,hb]
 have hset:∀o,(setObj b o).run P w=.ok () { w with heap:=w.heap.setIfInBounds b o }:=fun o=>by simp only [setObj,Sem.run,hb]
 unfold Oper.eff
 simp only [execOp,he.ev hx,he.ev hy,he.ev hz,Instr.mapUpdate,Sem.run_bind,ht,Result.andThen_ok,h1,hc,hf,hset,Sem.run_pure,vZ]
 refine k _ ?_
 have hp:=hm.putObj (o':=.map (nM (l++[s])) (l++[s]).length) hK
 have e:(nM l).push { key:=tK s,val:=.bool true,born:=l.length }=nM (l++[s]):=by
  apply Array.ext'
  simp [nM,y4m]
 rw [e]
 simpa [World.putObj] using hp
theorem q0v {w:World} {x:Flow} {l:List Flow} (h:x∉l):(Instr.findKey 95 (tK x) (nM l).toList).run prog w=.ok none w:=by
 obtain ⟨r,h2,h3⟩:=q0u w x l
 rcases h3 with ⟨rfl,h3⟩ | ⟨⟨q,rfl⟩,h3⟩
 ·exact h2
 ·exact absurd h3 h
set_option maxRecDepth 20000 in
theorem z9b (i:Nat) {x y z:Operand} {b:Nat} {l:List Flow} {s:Flow} (he:EnvR n E D a) (hm:Mem Φ K w) (hx:ev E x=some (.map (some b))) (hy:ev E y=some (tK s)) (hz:ev E z=some (.bool true)) (hK:qJ K i=some (.blk b (.map (nM l) l.length))) (hs:s∉l)
  (k:∀w',Mem Φ (wK K i (.blk b (.map (nM (l++[s])) (l++[s]).length))) w'→Kn undef w'):Oper.eff prog ⟨dst,.mapUpdate 136 x y z,ty,pos,aft,g⟩ a w Kn Qp :=
 z9c i (runUnderlying136 w) (y4c w false s) (q0v hs) he hm hx hy hz hK k
end
end Go.Sw

namespace Go.Sw
def xS (nx:Next) (x:Bs):List Bs:=(zH nx x).getD []
theorem j2q (m:Next) (x:Flow) (s:Bs):xS (oS m x) s=if s=x.1 then xS m x.1++[x.2] else xS m s:=by
 simp only [xS,oS,jE]
 split <;> rfl
theorem y5j (l:List Flow):∀a b,b∈xS (xA l) a↔(a,b)∈l:=by
 refine nG (p:=fun l=>∀a b,b∈xS (xA l) a↔(a,b)∈l) (fun a b=>by simp [xA,xS,zH]) (fun l x ih a b =>?_) l
 rw [hM,j2q,List.mem_append,List.mem_singleton]
 obtain ⟨u,v⟩:=x
 by_cases h:a=u
 ·subst h;rw [if_pos rfl,List.mem_append,List.mem_singleton,ih];simp
 ·rw [if_neg h,ih];simp [h]
theorem dF (x:Bs):∀(ns:List Bs) (o:From) (q:List Bs),∃t,(pX x ns o q).2=q++t∧t.Nodup∧(∀y∈t,y∈ns∧zH o y=none)∧(∀y∈ns,y∈t∨(zH o y).isSome=true) ∧
  ∀s,zH (pX x ns o q).1 s=if s∈t then some x else zH o s
 | [],o,q=>⟨[],by simp [pX]⟩
 | n::ns,o,q=>by
  simp only [pX]
  by_cases h:(zH o n).isSome=true
  ·rw [if_pos h]
   obtain ⟨t,h1,h2,h3,h4,h5⟩:=dF x ns o q
   refine ⟨t,h1,h2,fun y hy=>⟨List.mem_cons_of_mem _ (h3 y hy).1,(h3 y hy).2⟩,fun y hy =>?_,h5⟩
   rcases List.mem_cons.1 hy with rfl | hy
   ·exact .inr h
   ·exact h4 y hy
  ·rw [if_neg h]
   have hn:zH o n=none:=by simpa using h
   obtain ⟨t,h1,h2,h3,h4,h5⟩:=dF x ns (qM o n x) (q++[n])
   have hnt:n∉t:=fun hc=>by have:=(h3 n hc).2;rw [jE,if_pos rfl] at this;cases this
   refine ⟨n::t,by rw [h1,List.append_assoc];rfl,List.nodup_cons.2 ⟨hnt,h2⟩,fun y hy =>?_,fun y hy =>?_,fun s =>?_⟩
   ·rcases List.mem_cons.1 hy with rfl | hy
    ·exact ⟨List.mem_cons_self,hn⟩
    ·obtain ⟨g1,g2⟩:=h3 y hy
     rw [jE] at g2
     by_cases e:y=n
     ·exact absurd (e▸hy) hnt
     ·rw [if_neg e] at g2;exact ⟨List.mem_cons_of_mem _ g1,g2⟩
   ·rcases List.mem_cons.1 hy with rfl | hy
    ·exact .inl List.mem_cons_self
    ·rcases h4 y hy with g | g
     ·exact .inl (List.mem_cons_of_mem _ g)
     ·rw [jE] at g
      by_cases e:y=n
      ·exact .inl (e▸List.mem_cons_self)
      ·rw [if_neg e] at g;exact .inr g
   ·rw [h5,jE]
    by_cases e:s=n
    ·subst e;rw [if_neg hnt,if_pos rfl,if_pos List.mem_cons_self]
    ·by_cases g:s∈t
     ·rw [if_pos g,if_pos (List.mem_cons_of_mem _ g)]
     ·rw [if_neg g,if_neg e,if_neg (fun hc=>(List.mem_cons.1 hc).elim e g)]
def sE:Bs:=⟨#[]⟩
theorem hU:∀(l:List Bs) (s:Bs),zH (xN l) s=if s∈l then some sE else none:=by
 refine nG (p:=fun l=>∀s,zH (xN l) s=if s∈l then some sE else none) (fun s=>rfl) (fun l x ih s =>?_)
 rw [q2p,jE,ih]
 by_cases e:s=x
 ·rw [if_pos e,if_pos (List.mem_append_right _ (List.mem_singleton.2 e))];rfl
 ·by_cases g:s∈l
  ·rw [if_neg e,if_pos g,if_pos (List.mem_append_left _ g)]
  ·rw [if_neg e,if_neg g,if_neg (fun hc=>(List.mem_append.1 hc).elim g (fun hc=>e (List.mem_singleton.1 hc)))]
structure Bfs (nx:Next) (l:List Bs) (i:Nat) (o:From) (q:List Bs) (d:Bs→Nat):Prop where
 pre:∃t,q=l++t∧t.Nodup∧(∀y∈t,∃a,y∈xS nx a)∧∀y∈t,y∉l
 mem:∀s,(zH o s).isSome=true↔s∈q
 root:∀s∈l,zH o s=some sE∧d s=0
 back:∀s p,zH o s=some p→s∉l→(zH o p).isSome=true∧s∈xS nx p∧d s=d p+1
 up:∀(j k:Nat) x y,j≤k→q[j]? = some x→q[k]? = some y→d x≤d y
 near:∀(j k:Nat) x y,i≤j+1→q[j]? = some x→q[k]? = some y→d y≤d x+1
 out:∀(j:Nat) x,j < i→q[j]? = some x→∀y∈xS nx x,(zH o y).isSome=true∧d y≤d x+1
theorem y3v (nx:Next) (l:List Bs):Bfs nx l 0 (xN l) l (fun _=>0) where
 pre:=⟨[],by simp⟩
 mem s:=by rw [hU];by_cases h:s∈l <;> simp [h]
 root s hs:=by rw [hU,if_pos hs];exact ⟨rfl,rfl⟩
 back s p h hs:=by rw [hU,if_neg hs] at h;cases h
 up _ _ _ _ _ _ _:=Nat.le_refl _
 near _ _ _ _ _ _ _:=Nat.zero_le _
 out j x h:=absurd h (Nat.not_lt_zero _)
theorem z8j {nx:Next} {l:List Bs} {i:Nat} {o:From} {q:List Bs} {d:Bs→Nat} (h:Bfs nx l i o q d) {x:Bs} (hx:q[i]? = some x) :
  ∃d',Bfs nx l (i+1) (pX x (xS nx x) o q).1 (pX x (xS nx x) o q).2 d':=by
 obtain ⟨t,h1,h2,h3,h4,h5⟩:=dF x (xS nx x) o q
 generalize (pX x (xS nx x) o q).1=o' at h5 ⊢
 generalize (pX x (xS nx x) o q).2=q' at h1 ⊢
 subst h1
 have hil:i < q.length:=(List.getElem?_eq_some_iff.1 hx).1
 have hnt:∀y∈t,y∉q:=fun y hy hc=>by have:=(h.mem y).2 hc;rw [(h3 y hy).2] at this;cases this
 have hxq:x∈q:=List.mem_of_getElem? hx
 have hd:∀y∈q,(if y∈t then d x+1 else d y)=d y:=fun y hy=>if_neg fun hc=>hnt y hc hy
 have hdt:∀y∈t,(if y∈t then d x+1 else d y)=d x+1:=fun y hy=>if_pos hy
 have hat:∀(j:Nat) y,(q++t)[j]? = some y→(j < q.length∧q[j]? = some y∧y∈q)∨(q.length≤j∧y∈t):=fun j y hj=>by
  rcases Nat.lt_or_ge j q.length with g | g
  ·rw [List.getElem?_append_left g] at hj;exact .inl ⟨g,hj,List.mem_of_getElem? hj⟩
  ·rw [List.getElem?_append_right g] at hj;exact .inr ⟨g,List.mem_of_getElem? hj⟩
 have hlq:∀s∈l,s∈q:=fun s hs=>(h.mem s).1 (by rw [(h.root s hs).1];rfl)
 have hsome:∀s,(zH o' s).isSome=true↔s∈q++t:=fun s=>by
  rw [h5,List.mem_append]
  by_cases g:s∈t
  ·rw [if_pos g];simp [g]
  ·rw [if_neg g,h.mem];simp [g]
 have hold:∀s∈q,zH o' s=zH o s:=fun s hs=>by rw [h5,if_neg fun hc=>hnt s hc hs]
 refine ⟨fun y=>if y∈t then d x+1 else d y,?_⟩
 refine { pre := ?_,mem:=hsome,root:=fun s hs =>?_,back:=fun s p hp hs =>?_,up:=fun j k a b hjk ha hb =>?_,near:=fun j k a b hij ha hb =>?_,out:=fun j a hj ha y hy =>?_ }
 ·obtain ⟨u,rfl,g2,g3,g4⟩:=h.pre
  refine ⟨u++t,by rw [List.append_assoc],?_,fun y hy =>?_,fun y hy =>?_⟩
  ·refine List.nodup_append.2 ⟨g2,h2,fun a ha b hb e =>?_⟩
   subst e;exact hnt a hb (List.mem_append_right _ ha)
  ·rcases List.mem_append.1 hy with g | g
   ·exact g3 y g
   ·exact ⟨x,(h3 y g).1⟩
  ·rcases List.mem_append.1 hy with g | g
   ·exact g4 y g
   ·exact fun hc=>hnt y g (List.mem_append_left _ hc)
 ·show zH o' s=some sE∧(if s∈t then d x+1 else d s)=0
  rw [hold s (hlq s hs),hd s (hlq s hs)];exact h.root s hs
 ·show (zH o' p).isSome=true∧s∈xS nx p∧(if s∈t then d x+1 else d s)=(if p∈t then d x+1 else d p)+1
  rw [h5] at hp
  by_cases g:s∈t
  ·rw [if_pos g] at hp;cases hp
   rw [if_pos g,hd x hxq];exact ⟨(hsome x).2 (List.mem_append_left _ hxq),(h3 s g).1,rfl⟩
  ·rw [if_neg g] at hp
   obtain ⟨g1,g2,g3⟩:=h.back s p hp hs
   have hpq:=(h.mem p).1 g1
   rw [if_neg g,hd p hpq];exact ⟨(hsome p).2 (List.mem_append_left _ hpq),g2,g3⟩
 ·show (if a∈t then d x+1 else d a)≤(if b∈t then d x+1 else d b)
  rcases hat j a ha with ⟨g1,g2,g3⟩ | ⟨g1,g2⟩
  ·rw [hd a g3]
   rcases hat k b hb with ⟨k1,k2,k3⟩ | ⟨k1,k2⟩
   ·rw [hd b k3];exact h.up j k a b hjk g2 k2
   ·rw [hdt b k2];exact h.near i j x a (by omega) hx g2
  ·rw [hdt a g2]
   rcases hat k b hb with ⟨k1,k2,k3⟩ | ⟨k1,k2⟩
   ·omega
   ·rw [hdt b k2];exact Nat.le_refl _
 ·show (if b∈t then d x+1 else d b)≤(if a∈t then d x+1 else d a)+1
  have hxa:d x≤(if a∈t then d x+1 else d a):=by
   rcases hat j a ha with ⟨g1,g2,g3⟩ | ⟨g1,g2⟩
   ·rw [hd a g3];exact h.up i j x a (by omega) hx g2
   ·rw [hdt a g2];omega
  rcases hat k b hb with ⟨k1,k2,k3⟩ | ⟨k1,k2⟩
  ·rw [hd b k3];have:=h.near i k x b (by omega) hx k2;omega
  ·rw [hdt b k2];omega
 ·show (zH o' y).isSome=true∧(if y∈t then d x+1 else d y)≤(if a∈t then d x+1 else d a)+1
  have haq:q[j]? = some a∧a∈q:=by
   rcases hat j a ha with ⟨g1,g2,g3⟩ | ⟨g1,g2⟩
   ·exact ⟨g2,g3⟩
   ·omega
  rw [hd a haq.2]
  rcases Nat.lt_or_ge j i with g | g
  ·obtain ⟨k1,k2⟩:=h.out j a g haq.1 y hy
   have hyq:=(h.mem y).1 k1
   rw [hd y hyq];exact ⟨(hsome y).2 (List.mem_append_left _ hyq),k2⟩
  ·have e:j=i:=by omega
   subst e
   have:=haq.1;rw [hx] at this;cases this
   rcases h4 y hy with k | k
   ·rw [hdt y k];exact ⟨(hsome y).2 (List.mem_append_right _ k),Nat.le_refl _⟩
   ·have hyq:=(h.mem y).1 k
    rw [hd y hyq]
    refine ⟨(hsome y).2 (List.mem_append_left _ hyq),?_⟩
    obtain ⟨k,hk⟩:=List.getElem?_of_mem hyq
    exact h.near j k x y (by omega) hx hk
theorem z4v {α:Type}:∀{l U:List α},l.Nodup→(∀x∈l,x∈U)→l.length≤U.length
 | [],_,_,_=>Nat.zero_le _
 | x::l,U,hn,hs=>by
  obtain ⟨a,b,rfl⟩:=List.append_of_mem (hs x List.mem_cons_self)
  obtain ⟨h1,h2⟩:=List.nodup_cons.1 hn
  have:=z4v (U:=a++b) h2 fun y hy=>by
   have:=hs y (List.mem_cons_of_mem _ hy)
   rw [List.mem_append,List.mem_cons] at this
   rcases this with g | rfl | g
   ·exact List.mem_append_left _ g
   ·exact absurd hy h1
   ·exact List.mem_append_right _ g
  simp only [List.length_append,List.length_cons] at this ⊢;omega
theorem y8e {nx:Next} {a y:Bs} (h:y∈xS nx a):y∈nx.flatMap (·.2):=by
 unfold xS at h
 have:∀(m:Next) v,zH m a=some v→∃p∈m,p.2=v:=by
  intro m
  induction m with
  | nil=>intro v h;cases h
  | cons p m ih =>
   intro v h
   obtain ⟨k,u⟩:=p
   simp only [zH] at h
   split at h
   ·cases h;exact ⟨_,List.mem_cons_self,rfl⟩
   ·obtain ⟨p,h1,h2⟩:=ih v h;exact ⟨p,List.mem_cons_of_mem _ h1,h2⟩
 cases hg:zH nx a with
 | none=>rw [hg] at h;simp at h
 | some v =>
  rw [hg] at h
  obtain ⟨p,h1,h2⟩:=this nx v hg
  exact List.mem_flatMap.2 ⟨p,h1,by rw [h2];exact h⟩
theorem z7s {nx:Next} {l:List Bs} {i:Nat} {o:From} {q:List Bs} {d:Bs→Nat} (h:Bfs nx l i o q d):q.length≤kS nx l:=by
 obtain ⟨t,rfl,h2,h3,h4⟩:=h.pre
 have:=z4v (U:=nx.flatMap (·.2)) h2 fun y hy=>let ⟨a,ha⟩:=h3 y hy;y8e ha
 rw [List.length_append];unfold kS;omega
theorem y1u (nx:Next) (g:Nat) {i:Nat} {o:From} {q:List Bs} (h:q[i]? = none):oW nx g i o q=o:=by
 cases g with
 | zero=>rfl
 | succ g=>simp only [oW];rw [h]
theorem z6f (nx:Next) (g:Nat) {i:Nat} {o:From} {q:List Bs} {x:Bs} (h:q[i]? = some x) :
  oW nx (g+1) i o q=oW nx g (i+1) (pX x (xS nx x) o q).1 (pX x (xS nx x) o q).2:=by
 simp only [oW];rw [h];rfl
theorem y1t {nx:Next} {l:List Bs}:∀(g i:Nat) (o:From) (q:List Bs) (d:Bs→Nat),Bfs nx l i o q d→i≤q.length→kS nx l+1≤g+i→∃q' d',Bfs nx l q'.length (oW nx g i o q) q' d'
 | 0,i,o,q,d,h,hi,hg=>by have:=z7s h;omega
 | g+1,i,o,q,d,h,hi,hg=>by
  cases hx:q[i]? with
  | none =>
   rw [y1u nx _ hx]
   have:q.length≤i:=List.getElem?_eq_none_iff.1 hx
   have e:i=q.length:=by omega
   exact ⟨q,d,e▸h⟩
  | some x =>
   rw [z6f nx g hx]
   obtain ⟨d',h'⟩:=z8j h hx
   refine y1t g (i+1) _ _ d' h' ?_ (by omega)
   obtain ⟨t,h1,_⟩:=dF x (xS nx x) o q
   have:=(List.getElem?_eq_some_iff.1 hx).1
   rw [h1,List.length_append];omega
theorem y5w (nx:Next) (l:List Bs):∃q d,Bfs nx l q.length (qO nx l) q d:=y1t _ _ _ _ _ (y3v nx l) (Nat.zero_le _) (by omega)
inductive Way (nx:Next) (l:List Bs):Nat→Bs→Prop
 | root {x:Bs}:x∈l→Way nx l 0 x
 | step {k:Nat} {x y:Bs}:Way nx l k x→y∈xS nx x→Way nx l (k+1) y
def RchN (nx:Next) (l:List Bs) (x:Bs):Prop:=∃k,Way nx l k x
section
variable {nx:Next} {l:List Bs} {o:From} {q:List Bs} {d:Bs→Nat}
theorem q8f (h:Bfs nx l q.length o q d):∀(k:Nat) (s:Bs),Way nx l k s→(zH o s).isSome=true∧d s≤k:=by
 intro k s hw
 induction hw with
 | root hx=>rw [(h.root _ hx).1,(h.root _ hx).2];exact ⟨rfl,Nat.le_refl _⟩
 | @step k x y _ hy ih =>
  obtain ⟨j,hj⟩:=List.getElem?_of_mem ((h.mem x).1 ih.1)
  obtain ⟨h1,h2⟩:=h.out j x (List.getElem?_eq_some_iff.1 hj).1 hj y hy
  exact ⟨h1,by omega⟩
theorem q8e (h:Bfs nx l q.length o q d):∀(n:Nat) (s:Bs),d s≤n→(zH o s).isSome=true→Way nx l (d s) s
 | n,s,hn,hs=>by
  by_cases hl:s∈l
  ·rw [(h.root s hl).2];exact .root hl
  ·obtain ⟨p,hp⟩:=Option.isSome_iff_exists.1 hs
   obtain ⟨h1,h2,h3⟩:=h.back s p hp hl
   cases n with
   | zero=>omega
   | succ n=>rw [h3];exact .step (q8e h n p (by omega) h1) h2
end
theorem y5x (nx:Next) (l:List Bs) (s:Bs):(zH (qO nx l) s).isSome=true↔RchN nx l s:=by
 obtain ⟨q,d,h⟩:=y5w nx l
 exact ⟨fun hs=>⟨_,q8e h _ s (Nat.le_refl _) hs⟩,fun ⟨k,hw⟩=>(q8f h k s hw).1⟩
end Go.Sw

namespace Go.Sw
def y9i (nx:Next) (p:List Bs):Prop:=∀(i:Nat) a b,p[i]? = some a→p[i+1]? = some b→b∈xS nx a
theorem j3z (nx:Next) (s:Bs):y9i nx [s]:=fun i a b h1 h2=>by
 simp at h2
section
variable {nx:Next} {l:List Bs} {o:From} {q:List Bs} {d:Bs→Nat}
end
theorem x1m {nx:Next} {l:List Bs}:∀{p:List Bs} {s:Bs},y9i nx (p++[s])→(∀x,(p++[s])[0]? = some x→x∈l)→Way nx l p.length s:=by
 intro p
 refine nG (p:=fun p=>∀{s:Bs},y9i nx (p++[s])→(∀x,(p++[s])[0]? = some x→x∈l)→Way nx l p.length s) ?_ ?_ p
 ·intro s _ h;exact .root (h s rfl)
 ·intro p x ih s ht hr
  have h1:Way nx l p.length x:=ih (fun i a b ha hb=>ht i a b (by
    rw [List.getElem?_append_left (Nat.lt_trans (Nat.lt_succ_self _) (List.getElem?_eq_some_iff.1 hb).1)];exact ha) (by
    rw [List.getElem?_append_left (List.getElem?_eq_some_iff.1 hb).1];exact hb)) (fun y hy=>hr y (by
    rw [List.getElem?_append_left (by simp)];exact hy))
  have h2:s∈xS nx x:=ht p.length x s (by simp) (by simp)
  rw [List.length_append];exact .step h1 h2
def tL {α:Type} (m:List (Bs×α)):Prop:=(m.map (·.1)).Nodup
theorem y5g {α:Type}:∀(m:List (Bs×α)) (k:Bs) (x:α),(qM m k x).map (·.1)=if k∈m.map (·.1) then m.map (·.1) else m.map (·.1)++[k]
 | [],k,x=>by simp [qM]
 | (j,y)::m,k,x=>by
  simp only [qM,List.map_cons,List.mem_cons]
  by_cases h:k=j
  ·subst h;simp
  ·rw [if_neg h,List.map_cons,y5g m k x]
   by_cases g:k∈m.map (·.1)
   ·rw [if_pos g,if_pos (.inr g)]
   ·rw [if_neg g,if_neg (fun hc=>hc.elim h g)];rfl
theorem q5i {α:Type} {m:List (Bs×α)} (h:tL m) (k:Bs) (x:α):tL (qM m k x):=by
 unfold tL at *
 rw [y5g]
 split
 ·exact h
 ·rename_i g
  exact List.nodup_append.2 ⟨h,by simp,fun a ha b hb e=>by rw [List.mem_singleton] at hb;subst hb;subst e;exact g ha⟩
structure GOk (ns:List Bs) (fl:List Flow):Prop where
 nd:ns.Nodup
 ends:∀a b,(a,b)∈fl→a∈ns∧b∈ns
 ne:sE∉ns
section
variable {ns:List Bs} {fl:List Flow} {rs:List Bs}
theorem y8n (h:GOk ns fl) (hr:∀r∈rs,r∈ns) {s:Bs} (hs:RchN (xA fl) rs s):s∈ns:=by
 obtain ⟨k,hw⟩:=hs
 induction hw with
 | root hx=>exact hr _ hx
 | step _ hy _=>exact (h.ends _ _ ((y5j fl _ _).1 hy)).2
theorem j2l {o:From} {s:Bs}:s∈kW ns o↔s∈ns∧(zH o s).isSome=true:=by simp [kW]
def y7t (ns l:List Bs):List Bs:=ns.filter fun n=>decide (n∈l)
theorem z6c (ns l:List Bs):kW ns (xN l)=y7t ns l:=by
 unfold kW y7t
 refine List.filter_congr fun x _ =>?_
 rw [hU];by_cases h:x∈l <;> simp [h]
def nH (ns:List Bs) (fl:List Flow) (rs l:List Bs):Bool :=
 decide (y7t ns l=l)&&rs.all (fun r=>decide (r∈l))&&fl.all fun f => !decide (f.1∈l) || decide (f.2∈l)
end
end Go.Sw

namespace Go.Sw
def nxM (N:Next) (zf:Bs→Value):List (Bs×Value):=N.map fun p=>(p.1,zf p.1)
def nxK (N:Next) (zf:Bs→Value):List Res:=N.map fun p=>.gs (zf p.1) 9 1 (strs p.2)
def dH (zf:Bs→Value) (s:Bs) (v:Value):Bs→Value:=fun t=>if t=s then v else zf t
def z0a:Next→Bs→Next
 | [],_=>[]
 | (k,x)::m,s=>if s=k then m else (k,x)::z0a m s
theorem q5d {α:Type} {k:Bs} {x:α} {m:List (Bs×α)} (h:tL ((k,x)::m)):tL m∧k∉m.map (·.1):=by
 unfold tL at *;rw [List.map_cons,List.nodup_cons] at h;exact ⟨h.2,h.1⟩
theorem q9f (zf:Bs→Value) (s:Bs):∀N:Next,yA (nxM N zf) s=if (zH N s).isSome then some (zf s) else none
 | []=>rfl
 | (k,x)::N=>by
  show (if s=k then some (zf k) else yA (nxM N zf) s)=_
  by_cases h:s=k
  ·simp [zH,h]
  ·simp only [zH,if_neg h,q9f zf s N]
theorem y6b {s:Bs}:∀{N:Next},zH N s=none→z0a N s=N
 | [],_=>rfl
 | (k,x)::N,h=>by
  simp only [zH] at h
  by_cases hk:s=k
  ·rw [if_pos hk] at h;cases h
  ·rw [if_neg hk] at h;simp only [z0a,if_neg hk,y6b h]
theorem q1y (zf:Bs→Value) {s:Bs}:∀{N:Next} {l:List Bs},zH N s=some l→(nxK N zf).Perm (.gs (zf s) 9 1 (strs l)::nxK (z0a N s) zf)
 | (k,x)::N,l,h=>by
  simp only [zH] at h
  by_cases hk:s=k
  ·rw [if_pos hk] at h;cases h;subst hk;simp only [z0a,if_true];exact List.Perm.refl _
  ·rw [if_neg hk] at h
   simp only [z0a,if_neg hk]
   exact (List.Perm.cons _ (q1y zf h)).trans (List.Perm.swap _ _ _)
theorem q9e {zf:Bs→Value} {s:Bs} {v:Value}:∀{N:Next},s∉N.map (·.1)→nxK N (dH zf s v)=nxK N zf∧nxM N (dH zf s v)=nxM N zf
 | [],_=>⟨rfl,rfl⟩
 | (k,x)::N,h=>by
  simp only [List.map_cons,List.mem_cons,not_or] at h
  have:=q9e (zf:=zf) (v:=v) h.2
  have e:dH zf s v k=zf k:=if_neg fun e=>h.1 e.symm
  exact ⟨by show _::nxK N _=_::nxK N _;rw [this.1];simp only [e],by show _::nxM N _=_::nxM N _;rw [this.2];simp only [e]⟩
theorem y1f {zf:Bs→Value} {s:Bs} {v:Value} {l:List Bs}:∀{N:Next},tL N→(Res.gs v 9 1 (strs l)::nxK (z0a N s) zf).Perm (nxK (qM N s l) (dH zf s v))∧mZ (nxM N zf) s v=nxM (qM N s l) (dH zf s v)
 | [],_=>⟨by simp [z0a,nxK,qM,dH],by simp [nxM,qM,mZ,dH]⟩
 | (k,x)::N,h=>by
  obtain ⟨h1,h2⟩:=q5d h
  by_cases hk:s=k
  ·subst hk
   obtain ⟨e1,e2⟩:=q9e (zf:=zf) (v:=v) h2
   have e:dH zf s v s=v:=if_pos rfl
   constructor
   ·simp only [z0a,if_true,qM]
    show List.Perm _ (Res.gs (dH zf s v s) 9 1 (strs l)::nxK N (dH zf s v))
    rw [e,e1]
   ·show mZ ((s,zf s)::nxM N zf) s v=_
    simp only [qM,mZ,if_true]
    show _=(s,dH zf s v s)::nxM N (dH zf s v)
    rw [e,e2]
  ·obtain ⟨i1,i2⟩:=y1f (zf:=zf) (s:=s) (v:=v) (l:=l) h1
   have e:dH zf s v k=zf k:=if_neg fun e=>hk e.symm
   constructor
   ·simp only [z0a,if_neg hk,qM]
    show List.Perm (_::Res.gs (zf k) 9 1 (strs x)::nxK (z0a N s) zf) (Res.gs (dH zf s v k) 9 1 (strs x)::nxK (qM N s l) (dH zf s v))
    rw [e]
    exact (List.Perm.swap _ _ _).trans (List.Perm.cons _ i1)
   ·show mZ ((k,zf k)::nxM N zf) s v=_
    simp only [qM,mZ,if_neg hk,i2]
    show _=(k,dH zf s v k)::nxM (qM N s l) (dH zf s v)
    rw [e]
theorem y5s:∀l:List Flow,tL (xA l):=by
 refine nG (by simp [xA,tL]) (fun l x ih =>?_)
 rw [hM];exact q5i ih _ _
theorem nxt_len (s:Bs):∀l:List Flow,((zH (xA l) s).getD []).length≤l.length:=by
 refine nG (by simp [xA,zH]) (fun l x ih =>?_)
 rw [hM,oS,jE,List.length_append]
 by_cases h:s=x.1
 ·subst h;simp only [if_true,Option.getD_some,List.length_append,List.length_cons,List.length_nil];omega
 ·rw [if_neg h];omega
section
variable {Φ:Fz} {K:List Res} {w:World} {zf:Bs→Value} {N:Next}
theorem j9i (s:Bs) (hm:Mem Φ (nxK N zf++K) w):Mem Φ (.gs (zF false (.slice none 0 0) (yA (nxM N zf) s)) 9 1 (strs ((zH N s).getD []))::(nxK (z0a N s) zf++K)) w:=by
 rw [q9f]
 cases h:zH N s with
 | none=>rw [y6b h];exact hm.nilRow 9 1
 | some l=>exact hm.perm ((q1y zf h).append_right K)
theorem j3b {s:Bs} {v:Value} {l:List Bs} (hD:tL N) (hm:Mem Φ (.gs v 9 1 (strs l)::(nxK (z0a N s) zf++K)) w):Mem Φ (nxK (qM N s l) (dH zf s v)++K) w :=
 hm.perm ((y1f hD).1.append_right K)
theorem y4r:∀{N:Next} {Φ:Fz},Mem Φ (nxK N zf++K) w→∃Ψ,Φ.Le Ψ∧Mem Ψ K w∧MapRel (fun v x=>SliceOf RStr Ψ 1 v x) (nxM N zf) N
 | [],Φ,hm=>⟨Φ,Fz.Le.refl _,hm,.nil⟩
 | (k,x)::N,Φ,hm=>by
  obtain ⟨Ψ1,l1,m1,r1⟩:=Mem.freezeRow (i:=0) hm rfl
  obtain ⟨Ψ2,l2,m2,r2⟩:=y4r (N:=N) (Φ:=Ψ1) m1
  exact ⟨Ψ2,l1.trans l2,m2,.cons (SliceOf.strs.2 (r1.mono l2)) r2⟩
end
theorem tW {l:List Bs} {i:Nat} {x:Bs} (h:l[i]? = some x):(strs l)[i * 1]? = some (.string x):=by
 simp [strs,h]
theorem jP {Φ:Fz} {K:List Res} {w:World} {i:Nat} {v:Value} {l:List Bs} (hm:Mem Φ K w) (hk:qJ K i=some (.gs v 9 1 (strs l))):∃p cap,v=.slice p l.length cap:=by
 obtain ⟨m,hl,h2⟩:=hm.own _ (qH hk)
 rw [yH] at hl
 rcases h2 with ⟨rfl,rfl⟩ | ⟨b,cap,cur,rfl,_⟩
 ·exact ⟨none,0,by rw [show l.length=0 by omega]⟩
 ·exact ⟨_,cap,by rw [show l.length=m by omega]⟩
def jD (l:List Flow):List Value:=l.flatMap fun x=>[.string x.1,.string x.2]
def RFlow (_:Fz) (cs:List Value) (x:Flow):Prop:=cs=[.string x.1,.string x.2]
theorem RFlow.mono (Φ Ψ:Fz) (c:List Value) (x:Flow) (_:Φ.Le Ψ) (h:RFlow Φ c x):RFlow Ψ c x:=h
theorem z9m (l:List Flow) (x:Flow):jD l++[.string x.1,.string x.2]=jD (l++[x]):=by simp [jD]
theorem gR (Φ:Fz):∀l:List Flow,Chunks (RFlow Φ) 2 (jD l) l
 | []=>rfl
 | x::l=>⟨[.string x.1,.string x.2],jD l,rfl,rfl,rfl,gR Φ l⟩
end Go.Sw

namespace Go.Sw
open Go.Proofs.Tryz
open Go.Proofs
instance:ScT 47:=⟨isAgg47⟩
instance:ScT 66:=⟨isAgg66⟩
instance:ScT 71:=⟨isAgg71⟩
instance:ScT 72:=⟨isAgg72⟩
instance:ScT 73:=⟨isAgg73⟩
instance:AgT 78:=⟨isAgg78⟩
instance:AgT 95:=⟨isAgg95⟩
instance:AgT 131:=⟨isAgg131⟩
instance:ScT 136:=⟨isAgg136⟩
instance:ScT 141:=⟨isAgg141⟩
instance:ScT 143:=⟨isAgg143⟩
instance:ScT 198:=⟨isAgg198⟩
instance:SzT 47 1:=⟨sizeOf47⟩
instance:SzT 66 1:=⟨sizeOf66⟩
instance:SzT 71 1:=⟨sizeOf71⟩
instance:SzT 72 1:=⟨sizeOf72⟩
instance:SzT 73 1:=⟨sizeOf73⟩
instance:SzT 78 1:=⟨sizeOf78⟩
instance:SzT 95 2:=⟨sizeOf95⟩
instance:SzT 131 9:=⟨sizeOf131⟩
instance:SzT 136 1:=⟨sizeOf136⟩
instance:SzT 198 1:=⟨sizeOf198⟩
instance:FoT 206 0 0:=⟨q1a⟩
instance:FoT 75 0 0:=⟨fo_75_0⟩
instance:FoT 75 1 4:=⟨fo_75_1⟩
instance:FoT 75 2 5:=⟨fo_75_2⟩
instance:FoT 75 3 6:=⟨fo_75_3⟩
instance:FoT 75 4 7:=⟨fo_75_4⟩
instance:FoT 75 5 8:=⟨fo_75_5⟩
instance:FoT 78 0 0:=⟨fo_78_0⟩
instance:FoT 86 0 0:=⟨fo_86_0⟩
instance:FoT 86 1 1:=⟨fo_86_1⟩
instance:FoT 86 2 2:=⟨fo_86_2⟩
instance:FoT 95 0 0:=⟨fo_95_0⟩
instance:FoT 95 1 1:=⟨fo_95_1⟩
instance:FoT 131 0 0:=⟨q0z⟩
instance:FoT 131 1 1:=⟨j6l⟩
instance:FoT 261 1 1:=⟨j6x⟩
instance:FoT 261 3 3:=⟨j6z⟩
instance:SlT 47 95:=⟨runUnderlying47⟩
instance:ZeT 23 [.slice none 0 0]:=⟨_,zeroValue23,rfl⟩
instance:ZeT 25 [.slice none 0 0]:=⟨_,zeroValue25,rfl⟩
instance:ZeT 66 [.pointer none]:=⟨_,zeroValue66,rfl⟩
instance:ZeT 70 [.map none]:=⟨_,zeroValue70,rfl⟩
instance:ZeT 95 [.string ⟨#[]⟩,.string ⟨#[]⟩]:=⟨_,zeroValue95,rfl⟩
instance:ZeT 131 [.string ⟨#[]⟩,.string ⟨#[]⟩,.slice none 0 0,.string ⟨#[]⟩,.int .i64 ((0:Nat):Int),.int .i64 ((0:Nat):Int),.string ⟨#[]⟩,.slice none 0 0,.slice none 0 0]:=⟨_,zeroValue131,rfl⟩
instance:ZeT 136 [.map none]:=⟨_,zeroValue136,rfl⟩
instance:ZeT 198 [.map none]:=⟨_,zeroValue198,rfl⟩
instance:BzT 75 [.slice none 0 0,.slice none 0 0,.slice none 0 0,.slice none 0 0,.slice none 0 0,.slice none 0 0,.map none,.map none,.nilFunc] [0,4,5,6,7,8]:=⟨trivial⟩
instance:BzT 78 [.string ⟨#[]⟩] [0]:=⟨trivial⟩
instance:BzT 95 [.string ⟨#[]⟩,.string ⟨#[]⟩] [0,1]:=⟨trivial⟩
instance:BzT 131 [.string ⟨#[]⟩,.string ⟨#[]⟩,.slice none 0 0,.string ⟨#[]⟩,.int .i64 ((0:Nat):Int),.int .i64 ((0:Nat):Int),.string ⟨#[]⟩,.slice none 0 0,.slice none 0 0] [0,1]:=⟨trivial⟩
instance:MonoF RFlow:=⟨RFlow.mono⟩
end Go.Sw

namespace Go.Sw
open Go.Proofs.Tryz
open Go.Proofs
set_option maxRecDepth 20000
set_option maxHeartbeats 4000000
variable {Φ:Fz} {K:List Res} {w:World}
theorem j8g (s:Bs):(inN s).size=3+s.size:=by unfold inN;rw [ByteArray.size_append];rfl
theorem x1l (f x:Bs):(vrN f x).size=f.size+1+x.size:=by unfold vrN;rw [ByteArray.size_append,ByteArray.size_append];rfl
theorem z9t {s:Bs} (hs:s.size≤1000000) (hm:Mem Φ K w) :
  Calls prog 40 (List.toArray [.agg (List.toArray [.string s])]) w (fun ee w'=>ee=.returned (.string (inN s))∧Mem Φ K w'):=by
 refine zL func40 ntmps40 fun Q hQ a he =>?_
 refine Bx fun b2 w hm a he =>?_
 refine Qq (fun a he =>?_) (o:=by exact fun he hs=>y3a he rfl rfl (by show 3+s.size≤_;omega))
 refine zI ?_
 replace hm:=hm.dl [0]
 exact ⟨rfl,hm⟩
theorem z5h {s x:Bs} (hs:s.size≤1000000) (hx:x.size≤1000000) (hm:Mem Φ K w) :
  Calls prog 64 (List.toArray [.agg (List.toArray [.string s]),.string x]) w (fun ee w'=>ee=.returned (.string (vrN s x))∧Mem Φ K w'):=by
 refine zL func64 ntmps64 fun Q hQ a he =>?_
 refine Bx fun b2 w hm a he =>?_
 refine Qq (fun a he =>?_) (o:=by exact fun he hs=>y3a he rfl rfl (by show s.size+1≤_;omega))
 refine Qq (fun a he =>?_) (o:=by exact fun he hs=>y3a he rfl rfl (by rw [ByteArray.size_append];show s.size+1+x.size≤_;omega))
 refine zI ?_
 replace hm:=hm.dl [0]
 exact ⟨rfl,hm⟩
theorem z7w {s:Bs} {k:Nat} (G:Glob Φ) (hs:s.size≤1000000) (hk:k≤1000000) (hm:Mem Φ K w) :
  Calls prog 63 (List.toArray [.agg (List.toArray [.string s]),.int .i64 ((k:Nat):Int)]) w (fun ee w'=>ee=.returned (.string (wQ s k))∧Mem Φ K w'):=by
 refine zL func63 ntmps63 fun Q hQ a he =>?_
 refine Bx fun b2 w hm a he =>?_
 refine Reg [1,2,1,1,0,1,1] [0] fun w hm a he =>?_
 have hio_:I64 ((k:Nat):Int):=⟨by omega,by omega⟩
 have hil_:=z0n hio_
 refine Qq (fun a he =>?_) (o:=by exact fun he hs=>y3a he rfl rfl (by show s.size+1≤_;omega))
 refine zZ call99 (fun w hm a he =>?_) (c:=y7y hio_ G.tabs hm)
 refine Qq (fun a he =>?_) (o:=by exact fun he hs=>y3a he rfl rfl (by rw [ByteArray.size_append];show s.size+1+_≤_;omega))
 refine zI ?_
 replace hm:=hm.dl [0]
 exact ⟨rfl,hm⟩
end Go.Sw

namespace Go.Sw
open Go.Proofs.Tryz
open Go.Proofs
set_option maxRecDepth 20000
set_option maxHeartbeats 4000000
def z9r (e:Ex):List Bs:=if e.kind=6 then [e.name] else []
theorem q3x (e:Ex):zS e=z9r e++bindPs e.args++bindPa e.arms:=mT e
theorem uE {l:List Ex} {i:Nat} {x:Ex} (h:l[i]? = some x):bindPs (l.drop i)=zS x++bindPs (l.drop (i+1)):=by rw [zA h];rfl
theorem z8l {l:List Ex} {i:Nat} (h:¬i < l.length):bindPs (l.drop i)=[]:=by rw [zE h];rfl
theorem y3w {l:List Arm} {i:Nat} {x:Arm} (h:l[i]? = some x):bindPa (l.drop i)=x.vars++(zS x.body++bindPa (l.drop (i+1))):=by rw [zA h,jN,List.append_assoc]
theorem z8k {l:List Arm} {i:Nat} (h:¬i < l.length):bindPa (l.drop i)=[]:=by rw [zE h];rfl
theorem mS {a b c:List Bs} (h:a++c=b++c):a=b:=List.append_cancel_right h
theorem j0e {β:Type} {Φ:Fz} {y:Value} {items:List Bs} {KY:List Bs→β→List Res} (hy:Takes prog Φ y (fun s=>[.string s]) items KY) {e:Ex} (ih:∀x:Ex,x.sz < e.sz→∀{K0:List Res} {w:World} {d0:List Value} {pre post:List Bs} {z:β},REx Φ d0 x→Takes prog Φ y (fun s=>[.string s]) items KY→items=pre++zS x++post→Mem Φ (K0++KY pre z) w→Calls prog 101 (List.toArray [.agg d0.toArray,y]) w (fun ee w'=>∃z':β,ee=.returned (.bool true)∧True∧Mem Φ (K0++KY (pre++zS x) z') w')) {K0:List Res} {w:World} {d0:List Value} {pre post:List Bs} {z:β} (re:REx Φ d0 e) (hit:items=pre++zS e++post) (hm:Mem Φ (K0++KY pre z) w) :
  Calls prog 101 (List.toArray [.agg d0.toArray,y]) w (fun ee w'=>∃z':β,ee=.returned (.bool true)∧True∧Mem Φ (K0++KY (pre++zS e) z') w'):=by
 have re0_:=re
 obtain ⟨p3,c4,p9,c10,rfl,hi13,h2,h8,hm5,hn6,hm11,hn12⟩:=REx.fm re
 refine zL func101 ntmps101 fun Q hQ a he =>?_
 refine Bx fun b15 w hm a he =>?_
 refine go1 fun a he =>?_
 refine xH ?_
 have hit0_:=hit
 rw [q3x,List.append_assoc,List.append_assoc] at hit0_
 refine yO he (by intro c h;cases h) (qP he rfl q0x rfl) rfl fun a he =>
   yO he (by intro c h;cases h) (yS 0 he hm.toSees rfl rfl rfl isAgg3) rfl fun a he =>?_
 by_cases h18:e.kind=6
 refine yO he (by intro c h;cases h) (wL true he rfl rfl (decide_eq_true h18)) rfl fun a he =>
   yO he (by intro c h;cases h) (qQ he rfl) rfl fun a he =>?_
 refine tG he rfl rfl rfl rfl rfl (by intro c h;cases h) (z7v (qQ he rfl) fun a he =>?_)
 refine tG he rfl rfl rfl rfl rfl (by intro c h;cases h) (z7v (qP he rfl tD rfl) fun a he =>?_)
 refine tG he rfl rfl rfl rfl rfl (by intro c h;cases h) (z7v (yS 0 he hm.toSees rfl rfl rfl isAgg9) fun a he =>?_)
 refine tG he rfl rfl rfl rfl rfl (by intro c h;cases h) (vH he rfl rfl (hy.go pre e.name _ z (.blk b15 (ob [.int .i64 (e.kind),.int .i64 (e.num),.string e.name,.slice p3 e.args.length c4,.slice p9 e.arms.length c10] 110)::K0) w (by rw [hit0_,show z9r e=[e.name] by rw [z9r,if_pos h18]];simp only [List.append_assoc,List.cons_append,List.nil_append];rfl) hm) fun w hJ_ a he =>?_)
 obtain ⟨z19,hm⟩:=hJ_
 replace hm:=hm.nf
 refine tG he rfl rfl rfl rfl rfl (by intro c h;cases h) (z7v (uC he rfl) fun a he =>?_)
 refine yO he (by intro c h;cases h) (q7x he rfl rfl) rfl fun a he =>?_
 refine pN ?_
 refine go fun a he =>?_
 have hh_:items=(pre++[e.name])++(bindPs e.args++(bindPa e.arms++post)):=by
  rw [hit0_,show z9r e=[e.name] by rw [z9r,if_pos h18]];simp only [List.append_assoc,List.nil_append,List.append_nil]
 refine go fun a he =>?_
 refine xD (fun mm a w=>∃(i:Nat) (pr:List Bs) (zz:β),mm=e.args.length - i∧EnvR 58 [(1,y),(2,.pointer (some ⟨b15,0,none⟩)),(22,.slice p3 e.args.length c4),(23,.int .i64 ((e.args.length:Nat):Int)),(24,.int .i64 ((i:Nat):Int))] [] a∧Mem Φ (.blk b15 (ob [.int .i64 (e.kind),.int .i64 (e.num),.string e.name,.slice p3 e.args.length c4,.slice p9 e.arms.length c10] 110)::K0++KY pr zz) w∧(items=pr++(bindPs (e.args.drop i)++(bindPa e.arms++post)))) (e.args.length - 0) ⟨0,(pre++[e.name]),z19,rfl,he.pk,hm,hh_⟩ ?_
 clear hm he
 rintro mm a w ⟨i,pr,zz,hmu,he,hm,hI23⟩ L22 hL22
 by_cases h25:i < e.args.length
 refine go fun a he =>?_
 obtain ⟨q29,rfl,x30,hx31,cs32,hl33,ha34,hr35⟩:=h2.el hn6 h25
 obtain ⟨p38,c39,p44,c45,rfl,hi48,h37,h43,hm40,hn41,hm46,hn47⟩:=REx.fm hr35
 refine Alc fun b49 w hm a he =>?_
 refine Sto 0 fun w hm a he =>?_
 refine jF call101 (fun y51 w hG52 hm a he =>?_) (c:=ih _ (Ex.lt_args (List.mem_of_getElem? hx31)) (K0:=_::_::K0) (post:=_) hr35 hy (by rw [hI23,uE hx31];simp only [List.append_assoc];rfl) hm)
 refine go fun a he =>?_
 replace hm:=hm.dl [0]
 refine hL22 _ _ _ (by subst hmu;omega) ⟨(i+1),((pr++zS x30)),(y51),rfl,he.pk,hm,?_⟩
 rw [hI23,uE hx31];simp only [List.append_assoc]
 refine go fun a he =>?_
 refine xD (fun mm a w=>∃(i:Nat) (pr:List Bs) (zz:β),mm=e.arms.length - i∧EnvR 58 [(1,y),(34,.slice p9 e.arms.length c10),(35,.int .i64 ((e.arms.length:Nat):Int)),(36,.int .i64 ((i:Nat):Int))] [] a∧Mem Φ (.blk b15 (ob [.int .i64 (e.kind),.int .i64 (e.num),.string e.name,.slice p3 e.args.length c4,.slice p9 e.arms.length c10] 110)::K0++KY pr zz) w∧(items=pr++(bindPa (e.arms.drop i)++post))) (e.arms.length - 0) ⟨0,pr,zz,rfl,he.pk,hm,by rw [hI23,z8l h25,List.nil_append];rfl⟩ ?_
 clear hm he
 rintro mm a w ⟨i,pr,zz,hmu,he,hm,hI57⟩ L56 hL56
 by_cases h59:i < e.arms.length
 refine go fun a he =>?_
 obtain ⟨q63,rfl,x64,hx65,cs66,hl67,ha68,hr69⟩:=h8.el hn12 h59
 obtain ⟨s70,b76,rfl,h71,h77⟩:=RArm.iff.1 hr69
 obtain ⟨p72,c73,rfl,hm74,hn75⟩:=h71.fm
 obtain ⟨p80,c81,p86,c87,rfl,hi90,h79,h85,hm82,hn83,hm88,hn89⟩:=REx.fm h77
 refine Alc fun b91 w hm a he =>?_
 refine Sto 0 fun w hm a he =>?_
 refine go fun a he =>?_
 refine xD (fun mm a w=>∃(k:Nat) (pr:List Bs) (zz:β),mm=x64.vars.length - k∧EnvR 58 [(1,y),(8,.pointer (some ⟨b91,0,none⟩)),(34,.slice (some q63) e.arms.length c10),(35,.int .i64 ((e.arms.length:Nat):Int)),(36,.int .i64 ((i:Nat):Int)),(41,.slice p72 x64.vars.length c73),(42,.int .i64 ((x64.vars.length:Nat):Int)),(43,.int .i64 ((k:Nat):Int))] [] a∧Mem Φ (.blk b91 (ob [.string x64.con,.slice p72 x64.vars.length c73,.int .i64 (x64.body.kind),.int .i64 (x64.body.num),.string x64.body.name,.slice p80 x64.body.args.length c81,.slice p86 x64.body.arms.length c87] 174)::.blk b15 (ob [.int .i64 (e.kind),.int .i64 (e.num),.string e.name,.slice p3 e.args.length c4,.slice (some q63) e.arms.length c10] 110)::K0++KY pr zz) w∧(items=pr++(x64.vars.drop k++(zS x64.body++(bindPa (e.arms.drop (i+1))++post))))) (x64.vars.length - 0) ⟨0,pr,zz,rfl,he.pk,hm,by rw [hI57,y3w hx65];simp only [List.append_assoc,List.drop_zero]⟩ ?_
 clear hm he
 rintro mm a w ⟨k,pr,zz,hmu,he,hm,hI95⟩ L94 hL94
 by_cases h97:k < x64.vars.length
 refine go fun a he =>?_
 obtain ⟨q101,rfl,x102,hx103,cs104,hl105,ha106,hr107⟩:=h71.el hn75 h97
 obtain rfl:cs104=[.string x102]:=hr107
 refine go1 fun a he =>?_
 refine xH ?_
 refine yO he (by intro c h;cases h) (qQ he rfl) rfl fun a he =>
   yO he (by intro c h;cases h) (qQ he rfl) rfl fun a he =>?_
 refine tH he rfl rfl rfl (by intro c h;cases h) (vH he rfl rfl (hy.go pr x102 _ zz (.blk b91 (ob [.string x64.con,.slice (some q101) x64.vars.length c73,.int .i64 (x64.body.kind),.int .i64 (x64.body.num),.string x64.body.name,.slice p80 x64.body.args.length c81,.slice p86 x64.body.arms.length c87] 174)::.blk b15 (ob [.int .i64 (e.kind),.int .i64 (e.num),.string e.name,.slice p3 e.args.length c4,.slice (some q63) e.arms.length c10] 110)::K0) w (by have h_:=hI95;rw [zA hx103] at h_;rw [h_];simp only [List.append_assoc,List.cons_append];rfl) hm) fun w hJ_ a he =>?_)
 obtain ⟨z109,hm⟩:=hJ_
 replace hm:=hm.nf
 refine yO he (by intro c h;cases h) (uC he rfl) rfl fun a he =>?_
 refine pN ?_
 refine go fun a he =>?_
 refine hL94 _ _ _ (by subst hmu;omega) ⟨(k+1),((pr++[x102])),(z109),rfl,he.pk,hm,?_⟩
 rw [hI95,zA hx103];simp only [List.append_assoc,List.cons_append,List.nil_append]
 refine jF call101 (fun y112 w hG113 hm a he =>?_) (c:=ih _ (Ex.lt_arms (List.mem_of_getElem? hx65)) (K0:=_::_::K0) (post:=_) h77 hy (by have h_:=hI95;rw [zE h97] at h_;rw [h_];simp only [List.append_assoc,List.nil_append];rfl) hm)
 refine go fun a he =>?_
 replace hm:=hm.dl [0]
 refine hL56 _ _ _ (by subst hmu;omega) ⟨(i+1),((pr++zS x64.body)),(y112),rfl,he.pk,hm,?_⟩
 have h_:=hI95
 rw [zE h97] at h_
 rw [h_];simp only [List.append_assoc,List.nil_append]
 refine zI ?_
 replace hm:=hm.dl [0]
 have h_:=hI57
 rw [z8k h59,List.nil_append,hit] at h_
 rw [mS h_];exact ⟨_,rfl,trivial,hm⟩
 refine yO he (by intro c h;cases h) (wL false he rfl rfl (decide_eq_false h18)) rfl fun a he =>
   yO he (by intro c h;cases h) (qQ he rfl) rfl fun a he =>
   z9u he rfl rfl rfl rfl rfl rfl fun a he =>
   z9u he rfl rfl rfl rfl rfl rfl fun a he =>
   z9u he rfl rfl rfl rfl rfl rfl fun a he =>
   z9u he rfl rfl rfl rfl rfl rfl fun a he =>
   z9u he rfl rfl rfl rfl rfl rfl fun a he =>
   yO he (by intro c h;cases h) (q7x he rfl rfl) rfl fun a he =>?_
 refine pN ?_
 refine go fun a he =>?_
 have hh_:items=pre++(bindPs e.args++(bindPa e.arms++post)):=by
  rw [hit0_,show z9r e=[] by rw [z9r,if_neg h18]];simp only [List.append_assoc,List.nil_append,List.append_nil]
 refine go fun a he =>?_
 refine xD (fun mm a w=>∃(i:Nat) (pr:List Bs) (zz:β),mm=e.args.length - i∧EnvR 58 [(1,y),(2,.pointer (some ⟨b15,0,none⟩)),(22,.slice p3 e.args.length c4),(23,.int .i64 ((e.args.length:Nat):Int)),(24,.int .i64 ((i:Nat):Int))] [] a∧Mem Φ (.blk b15 (ob [.int .i64 (e.kind),.int .i64 (e.num),.string e.name,.slice p3 e.args.length c4,.slice p9 e.arms.length c10] 110)::K0++KY pr zz) w∧(items=pr++(bindPs (e.args.drop i)++(bindPa e.arms++post)))) (e.args.length - 0) ⟨0,pre,z,rfl,he.pk,hm,hh_⟩ ?_
 clear hm he
 rintro mm a w ⟨i,pr,zz,hmu,he,hm,hI119⟩ L118 hL118
 by_cases h121:i < e.args.length
 refine go fun a he =>?_
 obtain ⟨q125,rfl,x126,hx127,cs128,hl129,ha130,hr131⟩:=h2.el hn6 h121
 obtain ⟨p134,c135,p140,c141,rfl,hi144,h133,h139,hm136,hn137,hm142,hn143⟩:=REx.fm hr131
 refine Alc fun b145 w hm a he =>?_
 refine Sto 0 fun w hm a he =>?_
 refine jF call101 (fun y147 w hG148 hm a he =>?_) (c:=ih _ (Ex.lt_args (List.mem_of_getElem? hx127)) (K0:=_::_::K0) (post:=_) hr131 hy (by rw [hI119,uE hx127];simp only [List.append_assoc];rfl) hm)
 refine go fun a he =>?_
 replace hm:=hm.dl [0]
 refine hL118 _ _ _ (by subst hmu;omega) ⟨(i+1),((pr++zS x126)),(y147),rfl,he.pk,hm,?_⟩
 rw [hI119,uE hx127];simp only [List.append_assoc]
 refine go fun a he =>?_
 refine xD (fun mm a w=>∃(i:Nat) (pr:List Bs) (zz:β),mm=e.arms.length - i∧EnvR 58 [(1,y),(34,.slice p9 e.arms.length c10),(35,.int .i64 ((e.arms.length:Nat):Int)),(36,.int .i64 ((i:Nat):Int))] [] a∧Mem Φ (.blk b15 (ob [.int .i64 (e.kind),.int .i64 (e.num),.string e.name,.slice p3 e.args.length c4,.slice p9 e.arms.length c10] 110)::K0++KY pr zz) w∧(items=pr++(bindPa (e.arms.drop i)++post))) (e.arms.length - 0) ⟨0,pr,zz,rfl,he.pk,hm,by rw [hI119,z8l h121,List.nil_append];rfl⟩ ?_
 clear hm he
 rintro mm a w ⟨i,pr,zz,hmu,he,hm,hI153⟩ L152 hL152
 by_cases h155:i < e.arms.length
 refine go fun a he =>?_
 obtain ⟨q159,rfl,x160,hx161,cs162,hl163,ha164,hr165⟩:=h8.el hn12 h155
 obtain ⟨s166,b172,rfl,h167,h173⟩:=RArm.iff.1 hr165
 obtain ⟨p168,c169,rfl,hm170,hn171⟩:=h167.fm
 obtain ⟨p176,c177,p182,c183,rfl,hi186,h175,h181,hm178,hn179,hm184,hn185⟩:=REx.fm h173
 refine Alc fun b187 w hm a he =>?_
 refine Sto 0 fun w hm a he =>?_
 refine go fun a he =>?_
 refine xD (fun mm a w=>∃(k:Nat) (pr:List Bs) (zz:β),mm=x160.vars.length - k∧EnvR 58 [(1,y),(8,.pointer (some ⟨b187,0,none⟩)),(34,.slice (some q159) e.arms.length c10),(35,.int .i64 ((e.arms.length:Nat):Int)),(36,.int .i64 ((i:Nat):Int)),(41,.slice p168 x160.vars.length c169),(42,.int .i64 ((x160.vars.length:Nat):Int)),(43,.int .i64 ((k:Nat):Int))] [] a∧Mem Φ (.blk b187 (ob [.string x160.con,.slice p168 x160.vars.length c169,.int .i64 (x160.body.kind),.int .i64 (x160.body.num),.string x160.body.name,.slice p176 x160.body.args.length c177,.slice p182 x160.body.arms.length c183] 174)::.blk b15 (ob [.int .i64 (e.kind),.int .i64 (e.num),.string e.name,.slice p3 e.args.length c4,.slice (some q159) e.arms.length c10] 110)::K0++KY pr zz) w∧(items=pr++(x160.vars.drop k++(zS x160.body++(bindPa (e.arms.drop (i+1))++post))))) (x160.vars.length - 0) ⟨0,pr,zz,rfl,he.pk,hm,by rw [hI153,y3w hx161];simp only [List.append_assoc,List.drop_zero]⟩ ?_
 clear hm he
 rintro mm a w ⟨k,pr,zz,hmu,he,hm,hI191⟩ L190 hL190
 by_cases h193:k < x160.vars.length
 refine go fun a he =>?_
 obtain ⟨q197,rfl,x198,hx199,cs200,hl201,ha202,hr203⟩:=h167.el hn171 h193
 obtain rfl:cs200=[.string x198]:=hr203
 refine go1 fun a he =>?_
 refine xH ?_
 refine yO he (by intro c h;cases h) (qQ he rfl) rfl fun a he =>
   yO he (by intro c h;cases h) (qQ he rfl) rfl fun a he =>?_
 refine tH he rfl rfl rfl (by intro c h;cases h) (vH he rfl rfl (hy.go pr x198 _ zz (.blk b187 (ob [.string x160.con,.slice (some q197) x160.vars.length c169,.int .i64 (x160.body.kind),.int .i64 (x160.body.num),.string x160.body.name,.slice p176 x160.body.args.length c177,.slice p182 x160.body.arms.length c183] 174)::.blk b15 (ob [.int .i64 (e.kind),.int .i64 (e.num),.string e.name,.slice p3 e.args.length c4,.slice (some q159) e.arms.length c10] 110)::K0) w (by have h_:=hI191;rw [zA hx199] at h_;rw [h_];simp only [List.append_assoc,List.cons_append];rfl) hm) fun w hJ_ a he =>?_)
 obtain ⟨z205,hm⟩:=hJ_
 replace hm:=hm.nf
 refine yO he (by intro c h;cases h) (uC he rfl) rfl fun a he =>?_
 refine pN ?_
 refine go fun a he =>?_
 refine hL190 _ _ _ (by subst hmu;omega) ⟨(k+1),((pr++[x198])),(z205),rfl,he.pk,hm,?_⟩
 rw [hI191,zA hx199];simp only [List.append_assoc,List.cons_append,List.nil_append]
 refine jF call101 (fun y208 w hG209 hm a he =>?_) (c:=ih _ (Ex.lt_arms (List.mem_of_getElem? hx161)) (K0:=_::_::K0) (post:=_) h173 hy (by have h_:=hI191;rw [zE h193] at h_;rw [h_];simp only [List.append_assoc,List.nil_append];rfl) hm)
 refine go fun a he =>?_
 replace hm:=hm.dl [0]
 refine hL152 _ _ _ (by subst hmu;omega) ⟨(i+1),((pr++zS x160.body)),(y208),rfl,he.pk,hm,?_⟩
 have h_:=hI191
 rw [zE h193] at h_
 rw [h_];simp only [List.append_assoc,List.nil_append]
 refine zI ?_
 replace hm:=hm.dl [0]
 have h_:=hI153
 rw [z8k h155,List.nil_append,hit] at h_
 rw [mS h_];exact ⟨_,rfl,trivial,hm⟩
theorem bind_ok {β:Type} {Φ:Fz} {y:Value} {items:List Bs} {KY:List Bs→β→List Res} (hy:Takes prog Φ y (fun s=>[.string s]) items KY) {e:Ex} {K0:List Res} {w:World} {d0:List Value} {pre post:List Bs} {z:β} (re:REx Φ d0 e) (hit:items=pre++zS e++post) (hm:Mem Φ (K0++KY pre z) w) :
  Calls prog 101 (List.toArray [.agg d0.toArray,y]) w (fun ee w'=>∃z':β,ee=.returned (.bool true)∧True∧Mem Φ (K0++KY (pre++zS e) z') w'):=by
 have:∀(n:Nat) (e:Ex),e.sz < n→∀{K0:List Res} {w:World} {d0:List Value} {pre post:List Bs} {z:β},REx Φ d0 e→items=pre++zS e++post→Mem Φ (K0++KY pre z) w →
   Calls prog 101 (List.toArray [.agg d0.toArray,y]) w (fun ee w'=>∃z':β,ee=.returned (.bool true)∧True∧Mem Φ (K0++KY (pre++zS e) z') w'):=by
  intro n
  induction n with
  | zero=>intro e h;omega
  | succ n ih=>intro e h K0 w d0 pre post z re hit hm;exact j0e hy (fun x hx K0 w d0 pre post z r _ h1 h2=>ih x (by omega) r h1 h2) re hit hm
 exact this _ e (Nat.lt_succ_self _) re hit hm
end Go.Sw

namespace Go.Sw
open Go.Proofs.Tryz
open Go.Proofs
set_option maxRecDepth 20000
set_option maxHeartbeats 4000000
theorem y9u {Φ:Fz} {K:List Res} {w:World} {d0:List Value} {e:Ex} (re:REx Φ d0 e) (hm:Mem Φ K w) :
  Calls prog 65 (List.toArray [.agg d0.toArray]) w (fun ee w'=>∃b:Nat,ee=.returned (.func (.func 100) (List.toArray []) (List.toArray [.pointer (some ⟨b,0,none⟩)]))∧True∧Mem Φ (.blk b (ob d0 110)::K) w'):=by
 have re0_:=re
 obtain ⟨p3,c4,p9,c10,rfl,hi13,h2,h8,hm5,hn6,hm11,hn12⟩:=REx.fm re
 refine zL func65 ntmps65 fun Q hQ a he =>?_
 refine Bx fun b15 w hm a he =>?_
 refine zI ?_
 exact ⟨_,rfl,trivial,hm⟩
theorem y9t {β:Type} {Φ:Fz} {w:World} {d0:List Value} {e:Ex} {y:Value} {KY:List Bs→β→List Res} {z:β} {b:Nat} (re:REx Φ d0 e) (hy:Takes prog Φ y (fun s=>[.string s]) (zS e) KY) (hm:Mem Φ (.blk b (ob d0 110)::KY [] z) w) :
  Calls prog 100 (List.toArray [y,.pointer (some ⟨b,0,none⟩)]) w (fun ee w'=>∃z':β,ee=.returned (.tuple #[])∧True∧Mem Φ (.blk b (ob d0 110)::KY (zS e) z') w'):=by
 have re0_:=re
 obtain ⟨p3,c4,p9,c10,rfl,hi13,h2,h8,hm5,hn6,hm11,hn12⟩:=REx.fm re
 refine zL func100 ntmps100 fun Q hQ a he =>?_
 refine jF call101 (fun y14 w hG15 hm a he =>?_) (c:=bind_ok hy re (K0:=[.blk b (ob [.int .i64 (e.kind),.int .i64 (e.num),.string e.name,.slice p3 e.args.length c4,.slice p9 e.arms.length c10] 110)]) (pre:=[]) (post:=[]) (by simp) hm)
 refine go fun a he =>?_
 refine hQ _ _ _ (y5y he results100 ?_)
 exact ⟨_,rfl,trivial,hm⟩
end Go.Sw

namespace Go.Sw
open Go.Proofs.Tryz
open Go.Proofs
set_option maxRecDepth 20000
set_option maxHeartbeats 4000000
structure TidyC (c:Core):Prop where
 inp:∀p∈c.inputs,p.name.size≤1000
 con:∀d∈c.datas,∀x∈d.cons,x.name.size≤1000∧x.fields.length≤1000
 fn:∀f∈c.funs,f.name.size≤1000∧(∀p∈f.params,p.name.size≤1000)∧∀b∈zS f.body,b.size≤1000
theorem flds_at {s:Bs} {j n:Nat} (h:j < n):(List.range' j (n - j)).map (wQ s)=wQ s j::(List.range' (j+1) (n - (j+1))).map (wQ s):=by
 obtain ⟨m,hm⟩:∃m,n - j=m+1:=⟨n - j - 1,by omega⟩
 rw [hm,List.range'_succ,List.map_cons,show n - (j+1)=m by omega]
theorem j5q {s:Bs} {j n:Nat} (h:¬j < n):(List.range' j (n - j)).map (wQ s)=[]:=by rw [show n - j=0 by omega];rfl
theorem j5p (s:Bs) (n:Nat):z9k s n=(List.range' 0 (n - 0)).map (wQ s):=by rw [z9k,List.range_eq_range',Nat.sub_zero]
theorem q1v (c:Core):zN c=[]++((c.inputs.drop 0).map (fun p=>inN p.name)++(c.datas.flatMap y3f++c.funs.flatMap z0l)):=by simp [zN]
theorem funN_eq (f:Fun):z0l f=[f.name]++((f.params.drop 0).map (fun p=>vrN f.name p.name)++(zS f.body).map (vrN f.name)):=by simp [z0l]
theorem z7y {α:Type} {n:List α} {a b:List α} (h:n=a++b):a.length≤n.length:=by rw [h,List.length_append];omega
theorem xM {Φ:Fz} {K:List Res} {w:World} {d0:List Value} {c:Core} (rpc:RCore Φ d0 c) (G:Glob Φ) (hT:TidyC c) (hN:(zN c).length≤1000000000) (hm:Mem Φ K w) :
  Calls prog 37 (List.toArray [.agg d0.toArray]) w (fun ee w'=>∃v:Value,ee=.returned v∧True∧Mem Φ (.gs v 9 1 (strs (zN c))::K) w'):=by
 obtain ⟨p3,c4,p9,c10,p15,c16,p21,c22,rfl,h2,h8,h14,h20,hm5,hn6,hm11,hn12,hm17,hn18,hm23,hn24⟩:=RCore.fm rpc
 refine z4b func37 rfl ntmps37 rfl (fun Q hQ a he =>?_)
 refine Bx fun b26 w hm a he =>?_
 refine Alc fun b28 w hm a he =>?_
 refine go fun a he =>?_
 replace hm:=hm.nilRow 9 1
 replace hm:=hm.nf
 refine go fun a he =>?_
 refine yF (he.ks [1,3,18,19]) hm (fun R mm a w=>∃(i:Nat) (u:Value) (acc:List Bs),mm=c.inputs.length - i∧R Φ [(20,.int .i64 ((i:Nat):Int))] [(0,.gs (u) 9 1 (strs acc)),(1,.blk b28 (ob [u] 25))] a w∧(zN c=acc++((c.inputs.drop i).map (fun p=>inN p.name)++(c.datas.flatMap y3f++c.funs.flatMap z0l)))) (c.inputs.length - 0) ⟨0,.slice none 0 0,[],rfl,⟨he.pk,hm⟩,q1v c⟩ ?_
 clear hm he
 rintro mm a w ⟨i,u,acc,hmu,⟨he,hm⟩,hI32⟩ L31 hL31
 replace hm:=hm.nf
 by_cases h34:i < c.inputs.length
 refine go fun a he =>?_
 obtain ⟨q38,rfl,x39,hx40,cs41,hl42,ha43,hr44⟩:=h8.el hn12 h34
 obtain rfl:=id hr44
 refine Alc fun b45 w hm a he =>?_
 refine Sto 0 fun w hm a he =>?_
 refine Reg [2,1,2,1,0,0,0,0] [0,2,3] fun w hm a he =>?_
 have hz_:=hT.inp _ (List.mem_of_getElem? hx40)
 refine yJ fun a he =>?_
 refine zZ call40 (fun w hm a he =>?_) (c:=z9t (by omega) hm)
 refine qW fun v46 w hm a he =>?_
 refine qL 2 pS (fun v47 w hm a he =>?_) (hb:=by have hl_:=z7y hI32;simp only [yH,List.length_cons,List.length_nil];omega)
 first | rw [qY] at hm | rw [← qU] at hm
 refine Sto 3 fun w hm a he =>?_
 refine go fun a he =>?_
 replace hm:=hm.dl [1,0]
 refine hL31 _ _ _ (by subst hmu;omega) ⟨(i+1),(v47),((acc++[inN x39.name])),rfl,⟨he.pk,hm⟩,?_⟩
 rw [hI32,zA hx40];simp only [List.append_assoc,List.cons_append,List.nil_append,List.map_cons]
 refine go fun a he =>?_
 refine yF (he.ks [1,3,33,34]) hm (fun R mm a w=>∃(i:Nat) (u:Value) (acc:List Bs),mm=c.datas.length - i∧R Φ [(35,.int .i64 ((i:Nat):Int))] [(0,.gs (u) 9 1 (strs acc)),(1,.blk b28 (ob [u] 25))] a w∧(zN c=acc++((c.datas.drop i).flatMap y3f++c.funs.flatMap z0l))) (c.datas.length - 0) ⟨0,u,acc,rfl,⟨he.pk,hm⟩,by rw [hI32,zE h34];rfl⟩ ?_
 clear hm he
 rintro mm a w ⟨i,u,acc,hmu,⟨he,hm⟩,hI52⟩ L51 hL51
 replace hm:=hm.nf
 by_cases h54:i < c.datas.length
 refine go fun a he =>?_
 obtain ⟨q58,rfl,x59,hx60,cs61,hl62,ha63,hr64⟩:=h2.el hn6 h54
 obtain ⟨s65,rfl,h66⟩:=id hr64
 obtain ⟨p67,c68,rfl,hm69,hn70⟩:=h66.fm
 refine Alc fun b71 w hm a he =>?_
 refine Sto 0 fun w hm a he =>?_
 refine go fun a he =>?_
 refine yF (he.ks [1,3,33,34,35,40,41]) hm (fun R mm a w=>∃(k:Nat) (u:Value) (acc:List Bs),mm=x59.cons.length - k∧R Φ [(42,.int .i64 ((k:Nat):Int))] [(1,.gs (u) 9 1 (strs acc)),(2,.blk b28 (ob [u] 25))] a w∧(zN c=acc++((x59.cons.drop k).flatMap (fun y=>z9k y.name y.fields.length)++((c.datas.drop (i+1)).flatMap y3f++c.funs.flatMap z0l)))) (x59.cons.length - 0) ⟨0,u,acc,rfl,⟨he.pk,hm⟩,by rw [hI52,zA hx60,List.flatMap_cons,List.append_assoc];rfl⟩ ?_
 clear hm he
 rintro mm a w ⟨k,u,acc,hmu,⟨he,hm⟩,hI74⟩ L73 hL73
 replace hm:=hm.nf
 by_cases h76:k < x59.cons.length
 refine go fun a he =>?_
 obtain ⟨q80,rfl,x81,hx82,cs83,hl84,ha85,hr86⟩:=h66.el hn70 h76
 obtain ⟨s87,rfl,h88⟩:=id hr86
 obtain ⟨p89,c90,rfl,hm91,hn92⟩:=h88.fm
 refine Alc fun b93 w hm a he =>?_
 refine Sto 0 fun w hm a he =>?_
 refine go fun a he =>?_
 refine yF (he.ks [1,3,9,33,34,35,40,41,42,48]) hm (fun R mm a w=>∃(j:Nat) (u:Value) (acc:List Bs),mm=x81.fields.length - j∧R Φ [(49,.int .i64 ((j:Nat):Int))] [(2,.gs (u) 9 1 (strs acc)),(3,.blk b28 (ob [u] 25))] a w∧(zN c=acc++((List.range' j (x81.fields.length - j)).map (wQ x81.name)++((x59.cons.drop (k+1)).flatMap (fun y=>z9k y.name y.fields.length)++((c.datas.drop (i+1)).flatMap y3f++c.funs.flatMap z0l))))) (x81.fields.length - 0) ⟨0,u,acc,rfl,⟨he.pk,hm⟩,by rw [hI74,zA hx82,List.flatMap_cons,List.append_assoc,j5p]⟩ ?_
 clear hm he
 rintro mm a w ⟨j,u,acc,hmu,⟨he,hm⟩,hI96⟩ L95 hL95
 replace hm:=hm.nf
 by_cases h98:j < x81.fields.length
 refine Reg [2,1,2,1,1,0,0,0,0] [0,1,3,4] fun w hm a he =>?_
 have hz_:=hT.con _ (List.mem_of_getElem? hx60) _ (List.mem_of_getElem? hx82)
 refine yJ fun a he =>?_
 refine zZ call63 (fun w hm a he =>?_) (c:=z7w G (by omega) (by omega) hm)
 refine qW fun v102 w hm a he =>?_
 refine qL 3 pS (fun v103 w hm a he =>?_) (hb:=by have hl_:=z7y hI96;simp only [yH,List.length_cons,List.length_nil];omega)
 first | rw [qY] at hm | rw [← qU] at hm
 refine Sto 4 fun w hm a he =>?_
 refine go fun a he =>?_
 replace hm:=hm.dl [0]
 refine hL95 _ _ _ (by subst hmu;omega) ⟨(j+1),(v103),((acc++[wQ x81.name j])),rfl,⟨he.pk,hm⟩,?_⟩
 rw [hI96,flds_at (s:=x81.name) h98];simp only [List.append_assoc,List.cons_append,List.nil_append]
 refine go fun a he =>?_
 replace hm:=hm.dl [0]
 refine hL73 _ _ _ (by subst hmu;omega) ⟨(k+1),(u),(acc),rfl,⟨he.pk,hm⟩,?_⟩
 have h_:=hI96
 rw [j5q h98] at h_
 rw [h_];simp only [List.nil_append]
 refine go fun a he =>?_
 replace hm:=hm.dl [0]
 refine hL51 _ _ _ (by subst hmu;omega) ⟨(i+1),(u),(acc),rfl,⟨he.pk,hm⟩,?_⟩
 have h_:=hI74
 rw [zE h76] at h_
 rw [h_];simp only [List.flatMap_nil,List.nil_append]
 refine go fun a he =>?_
 refine xD (fun mm a w=>∃(i:Nat) (u:Value) (acc:List Bs) (ds:List Nat),mm=c.funs.length - i∧EnvR 112 [(3,.pointer (some ⟨b28,0,none⟩)),(64,.slice p15 c.funs.length c16),(65,.int .i64 ((c.funs.length:Nat):Int)),(66,.int .i64 ((i:Nat):Int))] (z0e ds) a∧Mem Φ (.gs (u) 9 1 (strs acc)::.blk b28 (ob [u] 25)::.blk b26 (ob [.slice p3 c.datas.length c4,.slice p9 c.inputs.length c10,.slice p15 c.funs.length c16,.slice p21 c.outputs.length c22] 27)::xX ds++K) w∧(zN c=acc++(c.funs.drop i).flatMap z0l)) (c.funs.length - 0) ⟨0,u,acc,[],rfl,he.pk,hm,by rw [hI52,zE h54];rfl⟩ ?_
 clear hm he
 rintro mm a w ⟨i,u,acc,ds,hmu,he,hm,hI110⟩ L109 hL109
 by_cases h112:i < c.funs.length
 refine go fun a he =>?_
 obtain ⟨q116,rfl,x117,hx118,cs119,hl120,ha121,hr122⟩:=h14.el hn18 h112
 obtain ⟨s123,b129,rfl,h124,h130⟩:=id hr122
 obtain ⟨p125,c126,rfl,hm127,hn128⟩:=h124.fm
 obtain ⟨p133,c134,p139,c140,rfl,hi143,h132,h138,hm135,hn136,hm141,hn142⟩:=REx.fm h130
 refine Alc fun b144 w hm a he =>?_
 refine Sto 0 fun w hm a he =>?_
 have hf_:=hT.fn _ (List.mem_of_getElem? hx118)
 refine yJ fun a he =>?_
 refine kK fun a he =>?_
 refine Alc fun b146 w hm a he =>?_
 refine Sto 0 fun w hm a he =>?_
 refine qW fun v148 w hm a he =>?_
 refine qL 3 pS (fun v149 w hm a he =>?_) (hb:=by have hl_:=z7y hI110;simp only [yH,List.length_cons,List.length_nil];omega)
 first | rw [qY] at hm | rw [← qU] at hm
 refine Sto 4 fun w hm a he =>?_
 refine go fun a he =>?_
 refine yF (he.ks [3,13,64,65,66,83,84]) hm (fun R mm a w=>∃(k:Nat) (u:Value) (acc:List Bs),mm=x117.params.length - k∧R Φ [(85,.int .i64 ((k:Nat):Int))] [(3,.gs (u) 9 1 (strs acc)),(4,.blk b28 (ob [u] 25))] a w∧(zN c=acc++((x117.params.drop k).map (fun p=>vrN x117.name p.name)++((zS x117.body).map (vrN x117.name)++(c.funs.drop (i+1)).flatMap z0l)))) (x117.params.length - 0) ⟨0,v149,(acc++[x117.name]),rfl,⟨he.pk,hm⟩,by rw [hI110,zA hx118,List.flatMap_cons,funN_eq];simp only [List.append_assoc,List.cons_append,List.nil_append]⟩ ?_
 clear hm he
 rintro mm a w ⟨k,u,acc,hmu,⟨he,hm⟩,hI153⟩ L152 hL152
 replace hm:=hm.nf
 by_cases h155:k < x117.params.length
 refine go fun a he =>?_
 obtain ⟨q159,rfl,x160,hx161,cs162,hl163,ha164,hr165⟩:=h124.el hn128 h155
 obtain rfl:=id hr165
 refine Alc fun b166 w hm a he =>?_
 refine Sto 0 fun w hm a he =>?_
 refine Reg [2,1,2,1,2,0,0,0,0] [0,1,2,3,5,6] fun w hm a he =>?_
 have hz_:=hf_.2.1 _ (List.mem_of_getElem? hx161)
 refine zZ call64 (fun w hm a he =>?_) (c:=z5h (by omega) (by omega) hm)
 refine qW fun v167 w hm a he =>?_
 refine qL 5 pS (fun v168 w hm a he =>?_) (hb:=by have hl_:=z7y hI153;simp only [yH,List.length_cons,List.length_nil];omega)
 first | rw [qY] at hm | rw [← qU] at hm
 refine Sto 6 fun w hm a he =>?_
 refine go fun a he =>?_
 replace hm:=hm.dl [1,0]
 refine hL152 _ _ _ (by subst hmu;omega) ⟨(k+1),(v168),((acc++[vrN x117.name x160.name])),rfl,⟨he.pk,hm⟩,?_⟩
 rw [hI153,zA hx161];simp only [List.append_assoc,List.cons_append,List.nil_append,List.map_cons]
 refine jF call65 (fun y171 w hG172 hm a he =>?_) (c:=y9u (by assumption) hm)
 refine go fun a he =>?_
 refine z5j (p:=102) (zS x117.body) (fun x=>.string x) [.blk y171 (ob [.int .i64 (x117.body.kind),.int .i64 (x117.body.num),.string x117.body.name,.slice p133 x117.body.args.length c134,.slice p139 x117.body.arms.length c140] 110)] (fun pre z=>.gs (v148) 9 1 [.string x117.name]::.blk b146 (ob [.string x117.name,.string x117.name,.slice p125 x117.params.length c126,.string x117.result,.int .i64 (x117.body.kind),.int .i64 (x117.body.num),.string x117.body.name,.slice p133 x117.body.args.length c134,.slice p139 x117.body.arms.length c140] 131)::.blk b144 (ob [.string x117.name,.slice p125 x117.params.length c126,.string x117.result,.int .i64 (x117.body.kind),.int .i64 (x117.body.num),.string x117.body.name,.slice p133 x117.body.args.length c134,.slice p139 x117.body.arms.length c140] 112)::.gs (z) 9 1 (strs (acc++pre.map (vrN x117.name)))::.blk b28 (ob [z] 25)::.blk b26 (ob [.slice p3 c.datas.length c4,.slice p9 c.inputs.length c10,.slice (some q116) c.funs.length c16,.slice p21 c.outputs.length c22] 27)::xX ds++K) u he (by simpa using hm.nf) rfl call100 rfl (fun pre x post z l_ o1_ o2_ K1_ a w hit he hm =>?_) (fun y_ KY_ w hy_ hm =>?_) (fun Dk z a w he hm =>?_)
 replace hm:=hm.nf
 refine regI ?_
 refine yO he (by intro c h;cases h) (vJ he rfl) rfl fun a he =>?_
 refine pN ?_
 refine ⟨_,hm,fun w hm =>?_⟩
 replace hm:=hm.nf
 refine blkI ?_
 refine nX [2,1,2,1,0,0,0,0] (.q 0 (.q 1 (.q 2 (.q 3 (.e 4 (.e 5 (.e 6 (.e 7 (.done))))))))) [.gs (v148) 9 1 [.string x117.name],.blk b146 (ob [.string x117.name,.string x117.name,.slice p125 x117.params.length c126,.string x117.result,.int .i64 (x117.body.kind),.int .i64 (x117.body.num),.string x117.body.name,.slice p133 x117.body.args.length c134,.slice p139 x117.body.arms.length c140] 131),.blk b144 (ob [.string x117.name,.slice p125 x117.params.length c126,.string x117.result,.int .i64 (x117.body.kind),.int .i64 (x117.body.num),.string x117.body.name,.slice p133 x117.body.args.length c134,.slice p139 x117.body.arms.length c140] 112),.blk b28 (ob [z] 25),.blk b26 (ob [.slice p3 c.datas.length c4,.slice p9 c.inputs.length c10,.slice (some q116) c.funs.length c16,.slice p21 c.outputs.length c22] 27)] he hm mixed (by kernel_rfl) (by simp) (by kernel_rfl) fun w hm =>?_
 have hz_:=hf_.2.2 x (by rw [hit];simp)
 have hq_:=congrArg List.length hit
 simp only [List.length_append,List.length_cons] at hq_
 have hn_:=congrArg List.length hI153
 rw [zE h155] at hn_
 simp only [List.length_append,List.length_map,List.length_nil] at hn_
 refine zZ call64 (fun w hm a he =>?_) (c:=z5h (by omega) (by omega) hm)
 refine qW fun v173 w hm a he =>?_
 refine qL 5 pS (fun v174 w hm a he =>?_) (hb:=by simp only [yH,List.length_append,List.length_map,List.length_cons,List.length_nil];omega)
 first | rw [qY] at hm | rw [← qU] at hm
 refine Sto 6 fun w hm a he =>?_
 refine go fun a he =>?_
 replace hm:=hm.dl [0]
 refine ⟨rfl,v174,?_⟩
 rw [List.map_append,List.map_cons,List.map_nil,← List.append_assoc];exact hm
 exact (y9t (by assumption) hy_ hm).mono fun e w h=>let ⟨z,h1,_,h2⟩:=h;⟨_,z,h1,h2⟩
 replace hm:Mem Φ (.blk y171 (ob [.int .i64 (x117.body.kind),.int .i64 (x117.body.num),.string x117.body.name,.slice p133 x117.body.args.length c134,.slice p139 x117.body.arms.length c140] 110)::.gs (v148) 9 1 [.string x117.name]::.blk b146 (ob [.string x117.name,.string x117.name,.slice p125 x117.params.length c126,.string x117.result,.int .i64 (x117.body.kind),.int .i64 (x117.body.num),.string x117.body.name,.slice p133 x117.body.args.length c134,.slice p139 x117.body.arms.length c140] 131)::.blk b144 (ob [.string x117.name,.slice p125 x117.params.length c126,.string x117.result,.int .i64 (x117.body.kind),.int .i64 (x117.body.num),.string x117.body.name,.slice p133 x117.body.args.length c134,.slice p139 x117.body.arms.length c140] 112)::.gs (z) 9 1 (strs (acc++(zS x117.body).map (vrN x117.name)))::.blk b28 (ob [z] 25)::.blk b26 (ob [.slice p3 c.datas.length c4,.slice p9 c.inputs.length c10,.slice (some q116) c.funs.length c16,.slice p21 c.outputs.length c22] 27)::xX (Dk::ds)++K) w:=Mem.mid (A:=[.blk Dk (.deferred (some []))]) (B:=[.blk y171 (ob [.int .i64 (x117.body.kind),.int .i64 (x117.body.num),.string x117.body.name,.slice p133 x117.body.args.length c134,.slice p139 x117.body.arms.length c140] 110),.gs (v148) 9 1 [.string x117.name],.blk b146 (ob [.string x117.name,.string x117.name,.slice p125 x117.params.length c126,.string x117.result,.int .i64 (x117.body.kind),.int .i64 (x117.body.num),.string x117.body.name,.slice p133 x117.body.args.length c134,.slice p139 x117.body.arms.length c140] 131),.blk b144 (ob [.string x117.name,.slice p125 x117.params.length c126,.string x117.result,.int .i64 (x117.body.kind),.int .i64 (x117.body.num),.string x117.body.name,.slice p133 x117.body.args.length c134,.slice p139 x117.body.arms.length c140] 112),.gs (z) 9 1 (strs (acc++(zS x117.body).map (vrN x117.name))),.blk b28 (ob [z] 25),.blk b26 (ob [.slice p3 c.datas.length c4,.slice p9 c.inputs.length c10,.slice (some q116) c.funs.length c16,.slice p21 c.outputs.length c22] 27)]) (C:=xX ds++K) hm
 refine go fun a he =>?_
 replace hm:=hm.dl [3,2,1,0]
 refine hL109 _ _ _ (by subst hmu;omega) ⟨(i+1),(z),((acc++(zS x117.body).map (vrN x117.name))),((Dk::ds)),rfl,he.pk,hm,?_⟩
 have h_:=hI153
 rw [zE h155] at h_
 rw [h_];simp only [List.map_nil,List.nil_append,List.append_assoc]
 refine go fun a he =>?_
 replace hm:=hm.dl [2,1]
 replace hm:Mem Φ (xX ds++(.gs (u) 9 1 (strs acc)::K)) w:=Mem.mid (A:=[.gs (u) 9 1 (strs acc)]) (B:=xX ds) (C:=K) hm
 refine hQ _ _ _ (retX1 (ds:=ds) he results37 rfl hm fun w hm =>?_)
 have h_:=hI110
 rw [zE h112,List.flatMap_nil,List.append_nil] at h_
 rw [h_];exact ⟨_,rfl,trivial,hm⟩
end Go.Sw

namespace Go.Sw
inductive Tyd (T:Table):Scope→Ex→Bs→Prop
 | num {s:Scope} {e:Ex}:e.kind=1→e.args=[]→e.arms=[]→Tyd T s e qC
 | var {s:Scope} {e:Ex} {t:Bs}:e.kind=2→e.args=[]→e.arms=[]→zH s e.name=some t→Tyd T s e t
 | inp {s:Scope} {e:Ex} {t:Bs}:e.kind=3→e.args=[]→e.arms=[]→zH T.inputs e.name=some t→Tyd T s e t
 | con {s:Scope} {e:Ex} {m:Maker}:e.kind=4→e.arms=[]→zH T.cons e.name=some m→e.args.length=m.con.fields.length →
   (∀(i:Nat) x t,e.args[i]? = some x→m.con.fields[i]? = some t→Tyd T s x t)→Tyd T s e m.data
 | call {s:Scope} {e:Ex} {f:Fun}:e.kind=5→e.arms=[]→zH T.funs e.name=some f→e.args.length=f.params.length →
   (∀(i:Nat) x p,e.args[i]? = some x→f.params[i]? = some p→Tyd T s x p.type)→Tyd T s e f.result
 | let_ {s:Scope} {e x y:Ex} {t u:Bs}:e.kind=6→e.arms=[]→e.args=[x,y]→Tyd T s x t→Tyd T (qM s e.name t) y u→Tyd T s e u
 | case_ {s:Scope} {e x:Ex} {dt u:Bs} {d:Data}:e.kind=7→e.args=[x]→Tyd T s x dt→zH T.datas dt=some d→e.arms.length=d.cons.length →
   (∀(i:Nat) a c,e.arms[i]? = some a→d.cons[i]? = some c→a.con=c.name∧a.vars.length=c.fields.length) →
   (∀(i:Nat) a c,e.arms[i]? = some a→d.cons[i]? = some c→Tyd T (putAll s a.vars c.fields) a.body u)→Tyd T s e u
 | op {s:Scope} {e x y:Ex}:e.kind=8→e.arms=[]→e.args=[x,y]→Tyd T s x qC→Tyd T s y qC→Tyd T s e (opT e.name)
theorem y9q {l:List Ex} (hl:l.length=2):∃x y,l=[x,y]:=by
 match l,hl with
 | [x,y],_=>exact ⟨x,y,rfl⟩
theorem j4m {l:List Ex} (hl:l.length=1):∃x,l=[x]:=by
 match l,hl with
 | [x],_=>exact ⟨x,rfl⟩
theorem q3w {e:Ex} {a b:Bool} {r:Int} {n:Nat} (h:qN e a b r (n:Int)=true):e.arms.length=n:=by
 simp only [qN,Bool.and_eq_true,Bool.or_eq_true,decide_eq_true_eq] at h
 omega
theorem wS {e:Ex} {a b:Bool} {r:Int} (h:qN e a b r 0=true):e.arms=[]:=List.eq_nil_of_length_eq_zero (q3w (n:=0) h)
theorem sW {e:Ex} {a b:Bool} {r:Int} (h:qN e a b 0 r=true):e.args=[]:=List.eq_nil_of_length_eq_zero (vV (n:=0) h)
theorem z4k:∀{es:List Ex} {x:Ex} {m:Bs},x∈es→m∈zS x→m∈bindPs es
 | y::es,x,m,h,hm=>by
  simp only [bindPs,List.mem_append]
  rcases List.mem_cons.1 h with rfl | h
  ·exact .inl hm
  ·exact .inr (z4k h hm)
theorem z4j:∀{es:List Arm} {a:Arm} {m:Bs},a∈es→m∈a.vars++zS a.body→m∈bindPa es
 | b::es,a,m,h,hm=>by
  rw [jN,List.mem_append]
  rcases List.mem_cons.1 h with rfl | h
  ·exact .inl hm
  ·exact .inr (z4j h hm)
theorem y5o:∀{es:List Ex} {x:Ex},(bindPs es).Nodup→x∈es→(zS x).Nodup
 | y::es,x,hn,h=>by
  have hn':=yV (show (zS y++bindPs es).Nodup from hn)
  rcases List.mem_cons.1 h with rfl | h
  ·exact hn'.1
  ·exact y5o hn'.2.1 h
theorem y5n:∀{es:List Arm} {a:Arm},(bindPa es).Nodup→a∈es→(a.vars++zS a.body).Nodup
 | b::es,a,hn,h=>by
  rw [jN] at hn
  have hn':=yV hn
  rcases List.mem_cons.1 h with rfl | h
  ·exact hn'.1
  ·exact y5n hn'.2.1 h
theorem z5g (T:Table) (hT0:zH T.datas sNo=none):∀(n:Nat) (e:Ex) (s:Scope),e.sz < n→(zS e).Nodup→Fresh s (zS e)→(zG T e s).1≠sNo→Tyd T s e (zG T e s).1
 | 0,_,_,h,_,_,_=>by omega
 | n+1,e,s,hsz,hn,hf,h=>by
  have hka:∀x∈e.args,z0b T x:=fun x hx=>tJ T hT0 (n+1) x (by have:=Ex.lt_args hx;omega)
  have hkb:∀a∈e.arms,z0b T a.body:=fun a ha=>tJ T hT0 (n+1) a.body (by have:=Ex.lt_arms ha;omega)
  rw [mT] at hn hf
  have hn1:=yV hn
  have hn2:=yV hn1.1
  have fa:Fresh s (bindPs e.args):=hf.sub fun m hm=>List.mem_append.2 (.inl (List.mem_append.2 (.inr hm)))
  have fb:Fresh s (bindPa e.arms):=hf.sub fun m hm=>List.mem_append.2 (.inr hm)
  have harg:∀(ts:List Bs),(kD T e.args s ts).1=true→e.args.length=ts.length∧∀(i:Nat) x t,e.args[i]? = some x→ts[i]? = some t→Tyd T s x t:=fun ts ha=>by
   have h1:=(cJ hka hn2.2.1 fa ha).2
   refine ⟨h1.length,fun i x t hx ht =>?_⟩
   have h2:Ty T x s t:=h1.get hx ht
   have mx:=List.mem_of_getElem? hx
   rw [← h2.1]
   exact z5g T hT0 n x s (by have:=Ex.lt_args mx;omega) (y5o hn2.2.1 mx) (fa.sub fun m hm=>z4k mx hm) (h2.1▸h2.2)
  by_cases h1:e.kind=1
  ·rw [sI T e s h1] at h ⊢
   simp only [dS] at h ⊢
   split at h
   ·rename_i hb;rw [if_pos hb];exact .num h1 (sW hb) (wS hb)
   ·exact absurd rfl h
  by_cases h2:e.kind=2
  ·rw [sJ T e s h2] at h ⊢
   simp only [pH] at h ⊢
   split at h
   ·rename_i hb
    rw [if_pos hb]
    cases hv:zH s e.name with
    | none=>rw [hv] at h;exact absurd rfl h
    | some x=>exact .var h2 (sW hb) (wS hb) hv
   ·exact absurd rfl h
  by_cases h3:e.kind=3
  ·rw [sG T e s h3] at h ⊢
   simp only [oN] at h ⊢
   split at h
   ·rename_i hb
    rw [if_pos hb]
    cases hv:zH T.inputs e.name with
    | none=>rw [hv] at h;exact absurd rfl h
    | some x=>exact .inp h3 (sW hb) (wS hb) hv
   ·exact absurd rfl h
  by_cases h4:e.kind=4
  ·rw [sF T e s h4] at h ⊢
   unfold sY at h ⊢
   cases hm:zH T.cons e.name with
   | none=>rw [hm] at h;exact absurd rfl h
   | some m =>
    simp only [hm] at h ⊢
    by_cases hb:qN e false true (-1) 0=true
    ·rw [if_pos hb] at h ⊢
     by_cases ha:(kD T e.args s m.con.fields).1=true
     ·simp only [ha,if_true]
      obtain ⟨a1,a2⟩:=harg _ ha
      exact .con h4 (wS hb) hm a1 a2
     ·simp [ha] at h
    ·rw [if_neg hb] at h;exact absurd rfl h
  by_cases h5:e.kind=5
  ·rw [dX T e s h5] at h ⊢
   unfold aA at h ⊢
   cases hm:zH T.funs e.name with
   | none=>rw [hm] at h;exact absurd rfl h
   | some m =>
    simp only [hm] at h ⊢
    by_cases hb:qN e false true (-1) 0=true
    ·rw [if_pos hb] at h ⊢
     by_cases ha:(kD T e.args s (m.params.map Param.type)).1=true
     ·simp only [ha,if_true]
      obtain ⟨a1,a2⟩:=harg _ ha
      rw [List.length_map] at a1
      exact .call h5 (wS hb) hm a1 fun i x p hx hp=>a2 i x p.type hx (by rw [List.getElem?_map,hp];rfl)
     ·simp [ha] at h
    ·rw [if_neg hb] at h;exact absurd rfl h
  by_cases h6:e.kind=6
  ·rw [sH T e s h6] at h ⊢
   unfold z0p at h ⊢
   by_cases hb:qN e false true 2 0=true
   ·rw [if_pos hb] at h ⊢
    obtain ⟨x,y,hxy⟩:=y9q (vV (n:=2) hb)
    have hx:e.args[0]? = some x:=by rw [hxy];rfl
    have hy:e.args[1]? = some y:=by rw [hxy];rfl
    by_cases h0:(zG T x s).1=sNo
    ·rw [z7z hx h0] at h;exact absurd rfl h
    ·simp only [if_pos h6,hxy,bindPs,List.append_nil] at hn hf
     have hm1:=yV hn
     have hm2:=yV hm1.1
     have hm3:=yV hm2.2.1
     have mx:x∈e.args:=by rw [hxy];simp
     have my:y∈e.args:=by rw [hxy];simp
     have e1:=hka x mx s hm3.1 (hf.sub fun m hm=>by simp [hm]) h0
     rw [z2i hx hy h0] at h ⊢
     simp only [e1] at h ⊢
     refine .let_ h6 (wS hb) hxy (z5g T hT0 n x s (by have:=Ex.lt_args mx;omega) hm3.1 (hf.sub fun m hm=>by simp [hm]) h0)
      (z5g T hT0 n y _ (by have:=Ex.lt_args my;omega) hm3.2.1 (fun m hm =>?_) h)
     rw [jE,if_neg]
     ·exact hf m (by simp [hm])
     ·rintro rfl
      exact hm2.2.2 e.name (by simp) (by simp [hm])
   ·rw [if_neg hb] at h;exact absurd rfl h
  by_cases h7:e.kind=7
  ·rw [dY T e s h7] at h ⊢
   unfold jY at h ⊢
   by_cases hb:qN e false false 1 (-1)=true
   ·rw [if_pos hb] at h ⊢
    obtain ⟨x,hxy⟩:=j4m (vV (n:=1) hb)
    have hx:e.args[0]? = some x:=by rw [hxy];rfl
    rw [jO hx] at h ⊢
    by_cases h0:(zG T x s).1=sNo
    ·simp only [h0,hT0] at h;exact absurd rfl h
    ·have na:=hn2.2.1
     have fx:=fa
     rw [hxy] at fx na
     simp only [bindPs,List.append_nil] at fx na
     have mx:x∈e.args:=by rw [hxy];simp
     have e1:=hka x mx s na fx h0
     rw [e1] at h ⊢
     cases hd:zH T.datas (zG T x s).1 with
     | none=>rw [hd] at h;exact absurd rfl h
     | some d =>
      simp only [hd] at h ⊢
      by_cases hle:d.cons.length=e.arms.length
      ·rw [if_pos hle] at h ⊢
       obtain ⟨_,g2,_⟩:=sC h hkb hle hn1.2.1 fb rfl
       refine .case_ h7 hxy (z5g T hT0 n x s (by have:=Ex.lt_args mx;omega) na fx h0) hd hle.symm (fun i a c ha hc =>?_) (fun i a c ha hc =>?_)
       ·have g:=g2.get ha hc;exact ⟨g.1,g.2.1⟩
       ·have g:q8b T s _ a c:=g2.get ha hc
        have ma:=List.mem_of_getElem? ha
        have hba:=y5n hn1.2.1 ma
        have hna:=yV hba
        rw [← g.2.2.1]
        refine z5g T hT0 n a.body _ (by have:=Ex.lt_arms ma;omega) hna.2.1 (fun m hm =>?_) (g.2.2.1▸g.2.2.2)
        rw [mG fun hv=>hna.2.2 m hv hm]
        exact fb m (z4j ma (List.mem_append_right _ hm))
      ·rw [if_neg hle] at h;exact absurd rfl h
   ·rw [if_neg hb] at h;exact absurd rfl h
  by_cases h8:e.kind=8
  ·rw [uV T e s h8] at h ⊢
   unfold nC at h ⊢
   by_cases hb:qN e false true 2 0=true
   ·rw [if_pos hb] at h ⊢
    by_cases ha:(kD T e.args s [qC,qC]).1=true
    ·simp only [ha,if_true]
     obtain ⟨a1,a2⟩:=harg _ ha
     obtain ⟨x,y,hxy⟩:=y9q a1
     rw [hxy] at a2
     exact .op h8 (wS hb) hxy (a2 0 x qC rfl rfl) (a2 1 y qC rfl rfl)
    ·simp [ha] at h
   ·rw [if_neg hb] at h;exact absurd rfl h
  rw [dZ T e s h1 h2 h3 h4 h5 h6 h7 h8] at h
  exact absurd rfl h
end Go.Sw
