import Derived.Tactics
import Derived.Laws.AppendOwn
import Derived.KernelRfl
import Derived.Still
import Derived.OrdersIn
import Derived.RangeFuncCalls
import Derived.OwnWalkIn
import Derived.Laws.Strings
import Derived.Laws.Tables
import Derived.Laws.CopyRow
import Derived.Laws.Entries
import Derived.Deep.LoopGhost
set_option linter.unusedVariables false
set_option linter.unusedSimpArgs false
namespace Go.Sw
def get:List (Nat×Value)->Nat->Option Value
 | [],_=>none
 | (n,v)::E,t=>bif Nat.beq n t then some v else get E t
def ev (E:List (Nat×Value)):Operand->Option Value
 | .tmp t=>get E t
 | .const v=>some v
 | .global g=>some (.pointer (some ⟨g,0,none⟩))
 | .func f=>some (.func (.func f) #[] #[])
def evs (E:List (Nat×Value)):List Operand->Option (List Value)
 | []=>some []
 | x::xs=>match ev E x,evs E xs with
  | some v,some vs=>some (v::vs)
  | _,_=>none
structure EnvR (n:Nat) (E:List (Nat×Value)) (D:List Deferred) (a:Act):Prop where
 size:a.tmps.size=n
 env:∀t v,get E t=some v->a.tmps[t]? = some v
 defs:a.defers=D
section
variable {n:Nat} {E:List (Nat×Value)} {D:List Deferred} {a:Act}
theorem EnvR.ev (h:EnvR n E D a) {x:Operand} {v:Value} (b:ev E x=some v):a.eval x=v:=by
 cases x with
 | tmp t=>have:=h.env t v b;simp [Act.eval,Array.getD_eq_getD_getElem?,this]
 | const c=>simp only [Sw.ev,Option.some.injEq] at b;exact b
 | global g=>simp only [Sw.ev,Option.some.injEq] at b;exact b
 | func f=>simp only [Sw.ev,Option.some.injEq] at b;exact b
theorem EnvR.evs (h:EnvR n E D a):∀{xs:List Operand} {vs:List Value},evs E xs=some vs->xs.map a.eval=vs
 | [],vs,b=>by simp [Sw.evs] at b;simp [b]
 | x::xs,vs,b=>by
  simp only [Sw.evs] at b
  split at b
  ·rename_i v vs' h1 c
   simp only [Option.some.injEq] at b
   subst b
   simp [h.ev h1,EnvR.evs h c]
  ·cases b
theorem EnvR.evsA (h:EnvR n E D a) {xs:Array Operand} {vs:List Value} (b:Sw.evs E xs.toList=some vs):xs.map a.eval=vs.toArray:=by
 apply Array.ext'
 simp [h.evs b]
theorem nO {E:List (Nat×Value)} {d t:Nat} {v u:Value} (a:get ((d,v)::E) t=some u):(d=t/\v=u)∨(d≠t/\get E t=some u):=by
 simp only [get] at a
 cases hb:Nat.beq d t with
 | true=>
  have:d=t:=by simpa using hb
  simp only [hb,cond_true,Option.some.injEq] at a
  exact .inl ⟨this,a⟩
 | false=>
  simp only [hb,cond_false] at a
  exact .inr ⟨Nat.ne_of_beq_eq_false hb,a⟩
theorem EnvR.put (h:EnvR n E D a) {d:Nat} {v:Value} (e:Nat.blt d n=true):EnvR n ((d,v)::E) D (a.put (some d) v):=by
 have hd':d < n:=by simpa [Nat.blt_eq] using e
 refine ⟨by simp [Act.put,h.size],fun t u c=>?_,by simp [Act.put,h.defs]⟩
 rcases nO c with ⟨rfl,rfl⟩ | ⟨b,c⟩
 ·simp [Act.put,h.size,hd']
 ·simp only [Act.put]
  rw [Array.getElem?_setIfInBounds_ne b]
  exact h.env t u c
theorem EnvR.put_none (h:EnvR n E D a) {v:Value}:EnvR n E D (a.put none v):=by simpa [Act.put] using h
theorem EnvR.sub (h:EnvR n E D a) {E':List (Nat×Value)} (O:∀t v,get E' t=some v->get E t=some v):EnvR n E' D a :=
 ⟨h.size,fun t v b=>h.env t v (O t v b),h.defs⟩
def Sub:List (Nat×Value)->List (Nat×Value)->Prop
 | [],_=>True
 | (t,v)::E',E=>get E t=some v/\Sub E' E
theorem EnvR.of_sub (h:EnvR n E D a) {E':List (Nat×Value)} (O:Sub E' E):EnvR n E' D a:=by
 refine h.sub ?_
 clear h
 induction E' with
 | nil=>intro t v b;simp [get] at b
 | cons p E' c=>
  intro t v b
  rcases nO b with ⟨rfl,rfl⟩ | ⟨_,b⟩
  ·exact O.1
  ·exact c O.2 t v b
def q3x (t:Nat):List (Nat×Value)->Bool
 | []=>false
 | (u,_)::E=>bif Nat.beq u t then true else q3x t E
theorem y4s {t:Nat}:∀{E:List (Nat×Value)},q3x t E=false->get E t=none
 | [],_=>rfl
 | (u,v)::E,h=>by
  simp only [q3x] at h
  cases hb:Nat.beq u t with
  | true=>simp [hb] at h
  | false=>
   simp only [hb,cond_false] at h
   simp only [get,hb,cond_false]
   exact y4s h
def j5x:Nat->List (Nat×Value)->Bool
 | 0,_=>true
 | _+1,[]=>true
 | k+1,(t,_)::E=>(!q3x t (E.drop k))&&j5x k E
theorem q0p:∀(k:Nat) (E:List (Nat×Value)),j5x k E=true->∀t v,get (E.drop k) t=some v->get E t=some v
 | 0,_,_,_,_,h=>h
 | _+1,[],_,_,_,h=>h
 | k+1,(u,x)::E,a,t,v,h=>by
  simp only [j5x,Bool.and_eq_true,Bool.not_eq_true'] at a
  have h':get E t=some v:=q0p k E a.2 t v h
  have b:Nat.beq u t=false:=by
   cases hb:Nat.beq u t with
   | false=>rfl
   | true=>
    have:u=t:=by simpa using hb
    subst this
    have:=y4s a.1
    simp only [List.drop_succ_cons] at h
    rw [h] at this;cases this
  simp only [get,b,cond_false];exact h'
theorem EnvR.drop (h:EnvR n E D a) (k:Nat) (b:j5x k E=true):EnvR n (E.drop k) D a:=h.sub (q0p k E b)
end
structure Fz where
 obj:Nat->Option Obj
 os:Os
 out:Array (Nat×ByteArray)
structure Fz.Le (Φ Ψ:Fz):Prop where
 obj:∀b o,Φ.obj b=some o->Ψ.obj b=some o
 os:Ψ.os=Φ.os
 out:Ψ.out=Φ.out
theorem Fz.Le.refl (Φ:Fz):Φ.Le Φ:=⟨fun _ _ h=>h,rfl,rfl⟩
theorem Fz.Le.trans {Φ Ψ Χ:Fz} (h:Φ.Le Ψ) (h':Ψ.Le Χ):Φ.Le Χ:=⟨fun b o hb=>h'.obj b o (h.obj b o hb),h'.os.trans h.os,h'.out.trans h.out⟩
def Fz.add (Φ:Fz) (b:Nat) (o:Obj):Fz:={ Φ with obj:=fun c=>if c=b then some o else Φ.obj c }
theorem Fz.le_add {Φ:Fz} {b:Nat} (h:Φ.obj b=none) (o:Obj):Φ.Le (Φ.add b o) :=
 ⟨fun c x a=>by
  simp only [Fz.add];split
  ·subst_vars;rw [h] at a;cases a
  ·exact a,rfl,rfl⟩
structure At (Φ:Fz) (p:Addr) (cs:List Value):Prop where
 spot:p.spot=none
 ex:∃arr T fr,Φ.obj p.block=some (.cells arr T fr)/\∀j v,cs[j]? = some v->arr[p.off+j]? = some v
theorem At.mono {Φ Ψ:Fz} {p:Addr} {cs:List Value} (h:At Φ p cs) (hl:Φ.Le Ψ):At Ψ p cs :=
 ⟨h.spot,let ⟨arr,T,fr,h1,a⟩:=h.ex;⟨arr,T,fr,hl.obj _ _ h1,a⟩⟩
structure MapOk (es:Array MapEntry) (clock:Nat) (m:List (ByteArray×Value)):Prop where
 eq:es.toList.map (fun e=>(e.key,e.val))=m.map (fun p=>(Value.string p.1,p.2))
 old:∀e∈es.toList,e.born < clock
 nodup:(es.toList.map (·.born)).Nodup
structure MapOkI (es:Array MapEntry) (clock:Nat) (m:List (Int×Value)):Prop where
 eq:es.toList.map (fun e=>(e.key,e.val))=m.map (fun p=>(Value.int .i64 p.1,p.2))
 old:∀e∈es.toList,e.born < clock
 nodup:(es.toList.map (·.born)).Nodup
inductive Res where
 | blk (b:Nat) (o:Obj)
 | gs (v:Value) (T:TypeId) (k:Nat) (cs:List Value)
 | mp (b:Nat) (m:List (ByteArray×Value))
 | imp (b:Nat) (m:List (Int×Value))
def Res.foot:Res->Option Nat
 | .blk b _=>some b
 | .gs v _ _ _=>v.ownBlock
 | .mp b _=>some b
 | .imp b _=>some b
def Res.sat (w:World):Res->Prop
 | .blk b o=>w.heap[b]? = some o
 | .gs v T k cs=>∃n,w.ownsRow 0 T k v n cs
 | .mp b m=>∃es clock,w.heap[b]? = some (.map es clock)/\MapOk es clock m
 | .imp b m=>∃es clock,w.heap[b]? = some (.map es clock)/\MapOkI es clock m
def hY (K:List Res):List Nat:=K.filterMap Res.foot
structure Sees (Φ:Fz) (K:List Res) (w:World):Prop where
 fz:∀b o,Φ.obj b=some o->w.heap[b]? = some o
 own:∀r∈K,r.sat w
structure Mem (Φ:Fz) (K:List Res) (w:World):Prop extends Sees Φ K w where
 os:w.os=Φ.os
 out:w.output=Φ.out
 nodup:(hY K).Nodup
 apart:∀b∈hY K,Φ.obj b=none
def qU:List Res->Nat->Option Res
 | [],_=>none
 | x::_,0=>some x
 | _::K,i+1=>qU K i
def pU:List Res->Nat->Res->List Res
 | [],_,_=>[]
 | _::K,0,r=>r::K
 | x::K,i+1,r=>x::pU K i r
def tJ:List Res->Nat->List Res
 | [],_=>[]
 | _::K,0=>K
 | x::K,i+1=>x::tJ K i
theorem qV:∀{K:List Res} {i:Nat} {r:Res},qU K i=some r->r∈K
 | [],_,_,h=>by simp [qU] at h
 | x::_,0,r,h=>by simp only [qU,Option.some.injEq] at h;subst h;exact List.mem_cons_self
 | _::K,i+1,r,h=>List.mem_cons_of_mem _ (qV (K:=K) (i:=i) h)
theorem z3f:∀{K:List Res} {i:Nat} {r:Res},qU K i=some r->K.Perm (r::tJ K i)
 | [],_,_,h=>by simp [qU] at h
 | x::K,0,r,h=>by simp only [qU,Option.some.injEq] at h;subst h;exact .refl _
 | x::K,i+1,r,h=>by
  have:=z3f (K:=K) (i:=i) h
  exact (this.cons x).trans (.swap _ _ _)
theorem z8z:∀{K:List Res} {i:Nat} {r:Res},qU K i=some r->∀r',(pU K i r').Perm (r'::tJ K i)
 | [],_,_,h,_=>by simp [qU] at h
 | x::K,0,r,h,_=>.refl _
 | x::K,i+1,r,h,r'=>by
  have:=z8z (K:=K) (i:=i) h r'
  exact (this.cons x).trans (.swap _ _ _)
section
variable {Φ Ψ:Fz} {K K':List Res} {w w':World} {r r':Res}
theorem Res.lt (h:r.sat w) {b:Nat} (hb:r.foot=some b):b < w.heap.size:=by
 cases r with
 | blk c o=>simp only [Res.foot,Option.some.injEq] at hb;subst hb;exact (Array.getElem?_eq_some_iff.1 h).1
 | gs v T k cs=>obtain ⟨n,h⟩:=h;exact (h.lt b hb).2
 | mp c m=>obtain ⟨es,clock,h,_⟩:=h;simp only [Res.foot,Option.some.injEq] at hb;subst hb;exact (Array.getElem?_eq_some_iff.1 h).1
 | imp c m=>obtain ⟨es,clock,h,_⟩:=h;simp only [Res.foot,Option.some.injEq] at hb;subst hb;exact (Array.getElem?_eq_some_iff.1 h).1
theorem Res.sat_same (h:r.sat w) (O:∀b,r.foot=some b->w'.heap[b]? = w.heap[b]?):r.sat w':=by
 cases r with
 | blk c o=>simp only [Res.sat] at h ⊢;rw [O c rfl];exact h
 | gs v T k cs=>
  obtain ⟨n,h1,a⟩:=h
  refine ⟨n,h1,?_⟩
  rcases a with a | ⟨g,cap,cur,rfl,hb,d,rest⟩
  ·exact .inl a
  ·exact .inr ⟨g,cap,cur,rfl,hb,by rw [O g rfl];exact d,rest⟩
 | mp c m=>
  obtain ⟨es,clock,h1,a⟩:=h
  exact ⟨es,clock,by rw [O c rfl];exact h1,a⟩
 | imp c m=>
  obtain ⟨es,clock,h1,a⟩:=h
  exact ⟨es,clock,by rw [O c rfl];exact h1,a⟩
theorem Mem.perm (h:Mem Φ K w) (c:K.Perm K'):Mem Φ K' w :=
 have a:(hY K).Perm (hY K'):=c.filterMap _
 { fz:=h.fz,own:=fun r hr=>h.own r (c.mem_iff.2 hr),os:=h.os,out:=h.out,nodup:=a.nodup_iff.1 h.nodup,apart:=fun b hb=>h.apart b (a.mem_iff.2 hb) }
theorem mem_keys {b:Nat}:b∈hY K↔∃r∈K,r.foot=some b:=by simp [hY]
theorem Mem.lt (h:Mem Φ K w) {b:Nat} (hb:b∈hY K):b < w.heap.size:=by
 obtain ⟨r,hr,a⟩:=mem_keys.1 hb
 exact Res.lt (h.own r hr) a
theorem Mem.drew (h:Mem Φ K w):Mem Φ K { w with drawn:=w.drawn+1 }:={ h with own:=fun r hr=>Res.sat_same (h.own r hr) (fun _ _=>rfl) }
theorem Mem.fzlt (h:Mem Φ K w) {b:Nat} {o:Obj} (hb:Φ.obj b=some o):b < w.heap.size:=(Array.getElem?_eq_some_iff.1 (h.fz b o hb)).1
theorem Mem.head (h:Mem Φ (r::K) w) (m:w'.os=w.os) (j:w'.output=w.output)
  (c:∀b,b < w.heap.size->some b≠r.foot->w'.heap[b]? = w.heap[b]?) (k:r'.sat w') (a:r'.foot=r.foot∨∀b,r'.foot=some b->w.heap.size<=b):Mem Φ (r'::K) w':=by
 have n:∀b,r.foot=some b->b∉hY K:=fun b hb l=>by
  have:=h.nodup
  simp only [hY,List.filterMap_cons,hb,List.nodup_cons] at this
  exact this.1 l
 have i:(hY K).Nodup:=by
  have:=h.nodup
  simp only [hY,List.filterMap_cons] at this
  split at this
  ·exact this
  ·exact (List.nodup_cons.1 this).2
 have g:∀b,b∈hY K->b∈hY (r::K):=fun b hb=>by
  obtain ⟨x,f,d⟩:=mem_keys.1 hb
  exact mem_keys.2 ⟨x,List.mem_cons_of_mem _ f,d⟩
 refine { fz:=fun b o hb=>?_,own:=fun x f=>?_,os:=m.trans h.os,out:=j.trans h.out,nodup := ?_,apart:=fun b hb=>?_ }
 ·rw [c b (h.fzlt hb) (fun e=>by
   have:=h.apart b (mem_keys.2 ⟨r,List.mem_cons_self,e.symm⟩)
   rw [this] at hb;cases hb)]
  exact h.fz b o hb
 ·rcases List.mem_cons.1 f with rfl | f
  ·exact k
  ·have hx':=h.own x (List.mem_cons_of_mem _ f)
   refine Res.sat_same hx' fun b hb=>c b (Res.lt hx' hb) fun e=>n b e.symm (mem_keys.2 ⟨x,f,hb⟩)
 ·cases d:r'.foot with
  | none=>simp only [hY,List.filterMap_cons,d];exact i
  | some b=>
   simp only [hY,List.filterMap_cons,d,List.nodup_cons]
   refine ⟨fun l=>?_,i⟩
   rcases a with e | e
   ·exact n b (e▸d) l
   ·have:=h.lt (g b l);have:=e b d;omega
 ·obtain ⟨x,f,d⟩:=mem_keys.1 hb
  rcases List.mem_cons.1 f with rfl | f
  ·rcases a with e | e
   ·exact h.apart b (mem_keys.2 ⟨r,List.mem_cons_self,e▸d⟩)
   ·cases p:Φ.obj b with
    | none=>rfl
    | some o=>have:=h.fzlt p;have:=e b d;omega
  ·exact h.apart b (g b (mem_keys.2 ⟨x,f,d⟩))
theorem Mem.upd (h:Mem Φ K w) {i:Nat} (g:qU K i=some r) (f:w'.os=w.os) (d:w'.output=w.output)
  (c:∀b,b < w.heap.size->some b≠r.foot->w'.heap[b]? = w.heap[b]?) (e:r'.sat w') (a:r'.foot=r.foot∨∀b,r'.foot=some b->w.heap.size<=b):Mem Φ (pU K i r') w' :=
 ((h.perm (z3f g)).head f d c e a).perm (z8z g r').symm
theorem Mem.more (h:Mem Φ K w) (g:w'.os=w.os) (d:w'.output=w.output) (c:∀b,b < w.heap.size->w'.heap[b]? = w.heap[b]?)
  (f:r.sat w') (a:∀b,r.foot=some b->w.heap.size<=b):Mem Φ (r::K) w':=by
 have j:Mem Φ (.gs (.slice none 0 0) 0 0 []::K) w :=
  { fz:=h.fz,own:=(fun x i=>(List.mem_cons.1 i).elim (fun e=>by subst e;exact ⟨0,World.ownsRow_nil w 0 0 0⟩) (fun i=>h.own x i)),os:=h.os,out:=h.out,nodup:=(show (hY K).Nodup from h.nodup),apart:=fun b hb=>h.apart b (show b∈hY K from hb) }
 exact j.head g d (fun b hb _=>c b hb) f (.inr a)
theorem Mem.nilRow (h:Mem Φ K w) (T:TypeId) (k:Nat):Mem Φ (.gs (.slice none 0 0) T k []::K) w :=
 h.more rfl rfl (fun _ _=>rfl) ⟨0,World.ownsRow_nil w 0 T k⟩ (by simp [Res.foot,Value.ownBlock])
theorem Mem.tail (h:Mem Φ (r::K) w):Mem Φ K w :=
 { fz:=h.fz,own:=fun x a=>h.own x (List.mem_cons_of_mem _ a),os:=h.os,out:=h.out,nodup:=(by
   have:=h.nodup
   simp only [hY,List.filterMap_cons] at this
   split at this
   ·exact this
   ·exact (List.nodup_cons.1 this).2),apart:=(fun b hb=>by
   obtain ⟨x,a,c⟩:=mem_keys.1 hb
   exact h.apart b (mem_keys.2 ⟨x,List.mem_cons_of_mem _ a,c⟩)) }
theorem Mem.del (h:Mem Φ K w) (i:Nat):Mem Φ (tJ K i) w:=by
 cases b:qU K i with
 | some r=>exact (h.perm (z3f b)).tail
 | none=>
  have:∀(K:List Res) i,qU K i=none->tJ K i=K:=by
   intro K
   induction K with
   | nil=>intro i _;rfl
   | cons x K c=>
    intro i a
    cases i with
    | zero=>simp [qU] at a
    | succ i=>simp only [qU] at a;simp only [tJ,c i a]
  rw [this K i b];exact h
theorem Mem.pull (h:Mem Φ K w) {i:Nat} (a:qU K i=some r):Mem Φ (r::tJ K i) w:=h.perm (z3f a)
theorem Mem.put {i:Nat} (h:Mem Φ (r::K) w) (b:qU K' i=some r') (a:tJ K' i=K):Mem Φ (pU K' i r) w :=
 h.perm (a▸(z8z b r).symm)
theorem Mem.le (h:Mem Φ K w) (hl:Ψ.Le Φ):Mem Ψ K w :=
 { fz:=fun b o hb=>h.fz b o (hl.obj b o hb),own:=h.own,os:=h.os.trans hl.os,out:=h.out.trans hl.out,nodup:=h.nodup,apart:=(fun b hb=>by
   cases a:Ψ.obj b with
   | none=>rfl
   | some o=>have:=h.apart b hb;rw [hl.obj b o a] at this;cases this) }
theorem Mem.no (h:Mem Φ (r::K) w) {b:Nat} (hb:r.foot=some b):Φ.obj b=none:=h.apart b (mem_keys.2 ⟨r,List.mem_cons_self,hb⟩)
theorem Mem.freezeHead (h:Mem Φ (r::K) w) {b:Nat} {o:Obj} (hb:r.foot=some b) (g:w.heap[b]? = some o):Mem (Φ.add b o) K w :=
 have f:=h.tail
 { fz:=(fun c x a=>by
   simp only [Fz.add] at a
   split at a
   ·subst_vars;simp only [Option.some.injEq] at a;subst a;exact g
   ·exact h.fz c x a),own:=f.own,os:=h.os,out:=h.out,nodup:=f.nodup,apart:=(fun c a=>by
   have d:c≠b:=fun e=>by
    have:=h.nodup
    simp only [hY,List.filterMap_cons,hb,List.nodup_cons] at this
    exact this.1 (e▸a)
   simp only [Fz.add,if_neg d]
   exact f.apart c a) }
end
end Go.Sw

namespace Go.Sw
section
variable {P:Program} {ops:Array Oper} {md:Region.Mode} {B:World->Prop} {kd:List Nat} {Qp:List PanicEntry->World->Prop} {D:List Deferred}
def wH (P:Program) (K:Value->World->Prop) (Qp:List PanicEntry->World->Prop):Result Next->Prop
 | .ok (.value v) w'=>K v w'
 | .ok .skip w'=>K undef w'
 | .ok (.enter f args) w'=>Calls P f args w' fun
   | .returned v,w''=>K v w''
   | .panicked chain,w''=>Qp chain w''
   | .outgrown,_=>False
 | .halt (.panic v) w'=>Qp [{ v,recovered:=false }] w'
 | _=>False
def Oper.eff (P:Program) (o:Oper) (a:Act) (w:World) (K:Value->World->Prop) (Qp:List PanicEntry->World->Prop):Prop :=
 wH P K Qp ((execOp a.eval o).run P w)
theorem xL {K K':Value->World->Prop} {Qp Qp':List PanicEntry->World->Prop} {r:Result Next} (h:wH P K Qp r) (a:∀v w,K v w->K' v w) (b:∀c w,Qp c w->Qp' c w):wH P K' Qp' r:=by
 cases r with
 | ok n w'=>
  cases n <;> simp only [wH] at h ⊢
  case value=>exact a _ _ h
  case skip=>exact a _ _ h
  case enter f args=>exact h.mono fun e w'' J=>by cases e <;> first | exact a _ _ J | exact b _ _ J | exact J
 | halt x w'=>cases x <;> simp only [wH] at h ⊢;exact b _ _ h
theorem uF {o:Oper} {a:Act} {w:World} {K:Act->World->Prop} {Q:Exit->Act->World->Prop}
  (h:Oper.eff P o a w (fun v w'=>K (a.put o.dst v) w') (fun c w'=>Q (.panic c) a w')):o.wp P a w K Q:=by
 unfold Oper.eff at h
 unfold Oper.wp
 generalize (execOp a.eval o).run P w=r at *
 cases r with
 | ok n w'=>
  cases n <;> simp only [wH] at h <;> simp only [Oper.upon]
  case value=>exact h
  case skip=>exact h
  case enter f args=>exact h.mono fun e w'' J=>by cases e <;> first | exact J | exact J.elim
 | halt x w'=>cases x <;> simp only [wH] at h;simp only [Oper.upon];exact h
def aQ (P:Program) (K:Value->World->Prop) (Qp:List PanicEntry->World->Prop):Result Next->Prop
 | .ok (.value v) w'=>K v w'
 | .ok .skip w'=>K undef w'
 | .ok (.enter f args) w'=>Calls P f args w' fun
   | .returned v,w''=>K v w''
   | .panicked chain,w''=>Qp chain w''
   | .outgrown,_=>False
 | .ok (.round l f tmps assign body) w'=>RoundIn Fence.wide 2 P l f tmps assign body w' fun
   | .returned v,w''=>K v w''
   | .panicked chain,w''=>Qp chain w''
   | .outgrown,_=>False
 | .halt (.panic v) w'=>Qp [{ v,recovered:=false }] w'
 | _=>False
def Oper.effR (P:Program) (o:Oper) (a:Act) (w:World) (K:Value->World->Prop) (Qp:List PanicEntry->World->Prop):Prop :=
 aQ P K Qp ((execOp a.eval o).run P w)
theorem xH {K K':Value->World->Prop} {Qp Qp':List PanicEntry->World->Prop} {r:Result Next} (h:aQ P K Qp r) (a:∀v w,K v w->K' v w) (b:∀c w,Qp c w->Qp' c w):aQ P K' Qp' r:=by
 cases r with
 | ok n w'=>
  cases n <;> simp only [aQ] at h ⊢
  case value=>exact a _ _ h
  case skip=>exact a _ _ h
  case enter f args=>exact h.mono fun e w'' J=>by cases e <;> first | exact a _ _ J | exact b _ _ J | exact J
  case round l f tmps assign body=>exact h.mono fun e w'' J=>by cases e <;> first | exact a _ _ J | exact b _ _ J | exact J
 | halt x w'=>cases x <;> simp only [aQ] at h ⊢;exact b _ _ h
theorem Oper.eff.toR {o:Oper} {a:Act} {w:World} {K:Value->World->Prop} (h:Oper.eff P o a w K Qp):Oper.effR P o a w K Qp:=by
 unfold Oper.eff at h
 unfold Oper.effR
 generalize (execOp a.eval o).run P w=r at *
 cases r with
 | ok n w'=>cases n <;> simp only [wH] at h <;> simp only [aQ] <;> exact h
 | halt x w'=>cases x <;> simp only [wH] at h;simp only [aQ];exact h
end
def FO:Option Nat->Fence
 | none=>Fence.wide
 | some l=>Fence.wide.inRound l
section
variable {P:Program} {w:World} {r:Option Nat} {m:Nat}
theorem FO.calls {f:FuncId} {args:Array Value} {R:Ending->World->Prop} (h:Calls P f args w R):CallsIn (FO r) m P f args w R:=by
 have:=(callsIn_wide (n:=m)).2 h
 cases r with
 | none=>exact this
 | some l=>exact CallsIn.inRound l this
theorem FO.fn (f:FuncId):(FO r).fn f:=by cases r <;> trivial
theorem FO.depth:(FO r).depth.isSome=true->False:=by cases r <;> (intro h;cases h)
theorem q9m {k l:Nat} {f:FuncId} {tmps:Array Value} {assign body:Code} {R:Ending->World->Prop} (h:RoundIn Fence.wide 2 P l f tmps assign body w R):RoundIn (FO r) k P l f tmps assign body w R:=by
 cases r with
 | none=>exact ⟨trivial,fun c cs _=>h.2 c cs (room_wide _)⟩
 | some l'=>exact ⟨trivial,fun c cs _=>h.2 c cs (room_wide _)⟩
end
section
variable {P:Program} {ops:Array Oper} {md:Region.Mode} {B:World->Prop} {kd:List Nat} {Qp:List PanicEntry->World->Prop} {D:List Deferred}
theorem z0t {r:Option Nat} {m:Nat} {o:Oper} {a:Act} {w:World} {K:Act->World->Prop} {Q:Exit->Act->World->Prop} (d:r≠none->∀c,o.op≠.defer c)
  (h:Oper.effR P o a w (fun v w'=>K (a.put o.dst v) w') (fun c w'=>Q (.panic c) a w')):o.wpIn (FO r) m P a w K Q:=by
 refine ⟨fun f _=>FO.fn f,?_⟩
 have J:o.semAt (FO r).round a.eval=execOp a.eval o:=by
  cases r with
  | none=>rfl
  | some l=>exact Oper.semAt_plain _ _ _ (d (fun h=>by cases h))
 rw [J]
 unfold Oper.effR at h
 generalize (execOp a.eval o).run P w=q at *
 cases q with
 | ok x w'=>
  cases x <;> simp only [aQ] at h <;> simp only [Oper.uponIn]
  case value=>exact h
  case skip=>exact h
  case enter f args=>exact ⟨fun b=>(FO.depth b).elim,FO.calls (h.mono fun e w'' J=>by cases e <;> first | exact J | exact J.elim)⟩
  case round l f tmps assign body=>exact ⟨fun b=>(FO.depth b).elim,q9m (h.mono fun e w'' J=>by cases e <;> first | exact J | exact J.elim)⟩
 | halt x w'=>cases x <;> simp only [aQ] at h;simp only [Oper.uponIn];exact h
def qM (kd:List Nat) (i:Nat):Nat:=kd.getD i 0
def oA (md:Region.Mode) (kd:List Nat) (o:Oper):Bool :=
 (List.range kd.length).any fun i=>qM kd i==2 && !(o.after.any fun e=>Region.binds md e&&e.on==i)
def q3c (P:Program) (B:World->Prop) (k:Nat) (o:Oper) (a:Act) (v:Value):Prop :=
 ∀w,(k=2->B w)->(execOp a.eval o).run P w=.ok (.value v) w
def vV (P:Program) (md:Region.Mode) (ops:Array Oper) (B:World->Prop) (kd:List Nat) (Qp:List PanicEntry->World->Prop) (i:Nat) (K:Act->World->Prop) (a:Act) (w:World):Prop :=
 match ops[i]? with
 | none=>K a w
 | some o=>
  if Region.wanted o (yielded ops a.tmps) then
   if qM kd i=0 then Oper.effR P o a w (fun v w'=>(oA md kd o=true->B w')/\K (a.put o.dst v) w') Qp
   else ∃v,q3c P B (qM kd i) o a v/\K (a.put o.dst v) w
  else K (a.put o.dst undef) w
def y9e (P:Program) (md:Region.Mode) (ops:Array Oper) (B:World->Prop) (kd:List Nat) (Qp:List PanicEntry->World->Prop) (Q:Act->World->Prop):Nat->Array Bool->Act->World->Prop
 | 0,listed,a,w=>Region.ready md ops listed=[]/\Q a w
 | n+1,listed,a,w=>(Region.ready md ops listed=[]->Q a w) /\
   ∀i∈Region.ready md ops listed,vV P md ops B kd Qp i (y9e P md ops B kd Qp Q n (listed.setIfInBounds i true)) a w
theorem pN {i:Nat} {K K':Act->World->Prop} {a:Act} {w:World} (b:∀a' w',a'.defers=a.defers->K a' w'->K' a' w') (h:vV P md ops B kd Qp i K a w):vV P md ops B kd Qp i K' a w:=by
 have c:∀(o:Oper) v,(a.put o.dst v).defers=a.defers:=fun o v=>by cases o.dst <;> rfl
 unfold vV at *
 cases e:ops[i]? with
 | none=>simp only [e] at h ⊢;exact b _ _ rfl h
 | some o=>
  simp only [e] at h ⊢
  by_cases g:Region.wanted o (yielded ops a.tmps)=true
  ·rw [if_pos g] at h ⊢
   by_cases d:qM kd i=0
   ·rw [if_pos d] at h ⊢;exact xH h (fun v w' f=>⟨f.1,b _ _ (c o v) f.2⟩) (fun _ _ h=>h)
   ·rw [if_neg d] at h ⊢
    obtain ⟨v,h1,j⟩:=h
    exact ⟨v,h1,b _ _ (c o v) j⟩
  ·rw [if_neg g] at h ⊢;exact b _ _ (c o _) h
theorem cD {r:Option Nat} {m:Nat} (C:r≠none->∀(i:Nat) (o:Oper),ops[i]? = some o->∀c,o.op≠.defer c) {Inv:Act->Prop} (z:∀(i:Nat) (o:Oper) (a:Act) (v:Value),ops[i]? = some o->Inv a->Inv (a.put o.dst v)) {Q:Act->World->Prop} {Q':Exit->Act->World->Prop} (hQ:∀a w,Q a w->Q' .normal a w) (M:∀c a w,Inv a->Qp c w->Q' (.panic c) a w) :
  ∀(n:Nat) (listed:Array Bool) (a:Act) (w:World),Inv a->((List.range ops.size).any (fun i=>qM kd i==2 && !listed.getD i true)=true->B w) ->
   y9e P md ops B kd Qp Q n listed a w->wpAnyIn (FO r) m P md ops Q' n listed a w:=by
 intro n
 induction n with
 | zero=>intro listed a w _ _ h;exact ⟨h.1,hQ _ _ h.2⟩
 | succ n y=>
  intro listed a w t D h
  refine ⟨fun H=>hQ _ _ (h.1 H),fun i A=>?_⟩
  have hi':=mem_ready.1 A
  have g:((List.range ops.size).any (fun k=>qM kd k==2 && !(listed.setIfInBounds i true).getD k true)=true->B w):=fun q=>by
   apply D
   rw [List.any_eq_true] at q ⊢
   obtain ⟨k,u,b⟩:=q
   simp only [Bool.and_eq_true,beq_iff_eq,Bool.not_eq_true'] at b
   refine ⟨k,u,?_⟩
   simp only [Bool.and_eq_true,beq_iff_eq,Bool.not_eq_true']
   refine ⟨b.1,?_⟩
   by_cases d:i=k
   ·subst d;exact hi'.1
   ·rw [getD_set_ne true d] at b;exact b.2
  have h1:=h.2 i A
  unfold vV at h1
  unfold wpOpIn
  cases p:ops[i]? with
  | none=>simp only [p] at h1 ⊢;exact y _ _ _ t g h1
  | some o=>
   simp only [p] at h1 ⊢
   by_cases G:Region.wanted o (yielded ops a.tmps)=true
   ·rw [if_pos G] at h1 ⊢
    refine z0t (fun h=>C h _ _ p) ?_
    by_cases E:qM kd i=0
    ·rw [if_pos E] at h1
     refine xH h1 (fun v w' F=>y _ _ _ (z _ _ _ _ p t) (fun q=>F.1 ?_) F.2) (fun c w' L=>M c a w' t L)
     rw [List.any_eq_true] at q
     obtain ⟨k,u,b⟩:=q
     simp only [Bool.and_eq_true,beq_iff_eq,Bool.not_eq_true'] at b
     unfold oA
     rw [List.any_eq_true]
     have l:k < kd.length:=by
      by_cases l:k < kd.length
      ·exact l
      ·have:=b.1
       simp [qM,List.getD_eq_getElem?_getD,List.getElem?_eq_none (Nat.le_of_not_lt l)] at this
     refine ⟨k,List.mem_range.2 l,?_⟩
     simp only [Bool.and_eq_true,beq_iff_eq,Bool.not_eq_true']
     refine ⟨b.1,?_⟩
     rw [<- Bool.not_eq_true]
     intro q
     obtain ⟨e,J,hb⟩:=Array.any_eq_true'.1 q
     simp only [Bool.and_eq_true,beq_iff_eq] at hb
     obtain ⟨_,o',ho',s⟩:=hi'
     rw [p] at ho'
     cases ho'
     have hl:=s e J hb.1
     rw [hb.2] at hl
     have j:=b.2
     by_cases d:i=k
     ·subst d
      have:=(mem_ready.1 A).1
      rcases Nat.lt_or_ge i listed.size with h' | h'
      ·simp [h'] at hl this;rw [hl] at this;cases this
      ·simp [Array.getElem?_eq_none h'] at hl
     ·rw [getD_set_ne true d] at j
      rcases Nat.lt_or_ge k listed.size with h' | h'
      ·simp [h'] at hl j;rw [hl] at j;cases j
      ·simp [Array.getElem?_eq_none h'] at hl
    ·rw [if_neg E] at h1
     obtain ⟨v,I,K⟩:=h1
     have hr:=I w (fun e=>D (by
      rw [List.any_eq_true]
      refine ⟨i,List.mem_range.2 (Array.getElem?_eq_some_iff.1 p).1,?_⟩
      simp only [Bool.and_eq_true,beq_iff_eq,Bool.not_eq_true']
      exact ⟨e,hi'.1⟩))
     unfold Oper.effR
     rw [hr]
     exact y _ _ _ (z _ _ _ _ p t) g K
   ·rw [if_neg G] at h1 ⊢
    exact ⟨fun f _=>FO.fn f,y _ _ _ (z _ _ _ _ p t) g h1⟩
def gL (P:Program) (ops:Array Oper) (B:World->Prop) (k:Nat) (o:Oper) (a:Act) (v:Value):Prop :=
 (Region.wanted o (yielded ops a.tmps)=true/\q3c P B k o a v)∨(Region.wanted o (yielded ops a.tmps)=false/\v=undef)
theorem j1t {i j:Nat} {oi oj:Oper} {v:Value} (q:ops[j]? = some oj) (c:oi.apart ops oj=true) (d:∀cs b,oi.op≠.select cs b) (e:∀cs b,oj.op≠.select cs b)
  {K K':Act->World->Prop} {a:Act} {w:World} (s:gL P ops B (qM kd i) oi a v)
  (o:∀u w',gL P ops B (qM kd i) oi (a.put oj.dst u) v->K ((a.put oj.dst u).put oi.dst v) w'->K' (a.put oj.dst u) w')
  (h:vV P md ops B kd Qp j K (a.put oi.dst v) w):vV P md ops B kd Qp j K' a w:=by
 obtain ⟨h1,n,f⟩:=Oper.apart_spec c
 have keep:∀u,gL P ops B (qM kd i) oi (a.put oj.dst u) v:=fun u=>by
  unfold gL q3c at *
  rw [execOp_put oi d a oj.dst u f,wanted_put oi a oj.dst u f]
  exact s
 have hw':=wanted_put oj a oi.dst v h1
 have he':=execOp_put oj e a oi.dst v h1
 unfold vV at *
 simp only [q] at h ⊢
 rw [hw'] at h
 have fin:∀u w',K ((a.put oi.dst v).put oj.dst u) w'->K' (a.put oj.dst u) w':=fun u w' p=>o u w' (keep u) (by rw [<- Act.put_comm a v u n];exact p)
 by_cases m:Region.wanted oj (yielded ops a.tmps)=true
 ·rw [if_pos m] at h ⊢
  by_cases g:qM kd j=0
  ·rw [if_pos g] at h ⊢
   unfold Oper.effR at *
   rw [he'] at h
   exact xH h (fun u w' l=>⟨l.1,fin u w' l.2⟩) (fun _ _ h=>h)
  ·rw [if_neg g] at h ⊢
   obtain ⟨u,k,r⟩:=h
   refine ⟨u,?_,fin u w r⟩
   unfold q3c at *
   rw [he'] at k
   exact k
 ·rw [if_neg m] at h ⊢;exact fin undef w h
theorem z1j {i:Nat} {oi:Oper} {v:Value} (c:ops[i]? = some oi) (d:qM kd i≠0) {K:Act->World->Prop} {a:Act} {w:World} (f:gL P ops B (qM kd i) oi a v)
  (h:K (a.put oi.dst v) w):vV P md ops B kd Qp i K a w:=by
 unfold vV
 simp only [c]
 rcases f with ⟨b,e⟩ | ⟨b,rfl⟩
 ·rw [if_pos b,if_neg d];exact ⟨v,e,h⟩
 ·rw [if_neg (by simp [b])];exact h
theorem z0s {Q:Act->World->Prop} {i:Nat} {oi:Oper} {v:Value} (z:ops[i]? = some oi) (g:∀(j:Nat) (o:Oper) cs b,ops[j]? = some o->o.op≠.select cs b) (E:qM kd i≠0) :
  ∀(n:Nat) (listed:Array Bool) (a:Act) (w:World),
   (∀j oj,ops[j]? = some oj->j≠i->listed.getD j true=false->(∀e∈oj.after,Region.binds md e=true->e.on≠i)->oi.apart ops oj=true) ->
   i∈Region.ready md ops listed->gL P ops B (qM kd i) oi a v ->
   y9e P md ops B kd Qp Q n (listed.setIfInBounds i true) (a.put oi.dst v) w->y9e P md ops B kd Qp Q (n+1) listed a w:=by
 intro n
 induction n with
 | zero=>
  intro listed a w _ hr t H
  refine ⟨fun h=>(by rw [h] at hr;cases hr),fun j s=>?_⟩
  by_cases c:j=i
  ·subst c;exact z1j z E t H
  ·have:=ready_mono s c
   rw [H.1] at this
   cases this
 | succ n G=>
  intro listed a w d hr t H
  refine ⟨fun h=>(by rw [h] at hr;cases hr),fun j s=>?_⟩
  by_cases c:j=i
  ·subst c;exact z1j z E t H
  ·have h1:=H.2 j (ready_mono s c)
   obtain ⟨f,oj,l,m⟩:=mem_ready.1 s
   have q:∀e∈oj.after,Region.binds md e=true->e.on≠i:=fun e J hb y=>by
    have h1:=m e J hb
    have D:=(mem_ready.1 hr).1
    rw [y] at h1
    rcases Nat.lt_or_ge i listed.size with h' | h'
    ·simp [h'] at D h1;rw [D] at h1;cases h1
    ·simp [Array.getElem?_eq_none h'] at h1
   have hfree':∀k ok,ops[k]? = some ok->k≠i->(listed.setIfInBounds j true).getD k true=false ->
     (∀e∈ok.after,Region.binds md e=true->e.on≠i)->oi.apart ops ok=true:=fun k ok hk' A r C=>by
    refine d k ok hk' A ?_ C
    by_cases p:j=k
    ·subst p;exact f
    ·rw [getD_set_ne true p] at r;exact r
   refine j1t l (d j oj l c f q) (fun cs b=>g i oi cs b z) (fun cs b=>g j oj cs b l) t (fun u w' hy' F=>?_) h1
   refine G _ _ _ hfree' (ready_mono hr (Ne.symm c)) hy' ?_
   rw [Array.setIfInBounds_comm _ _ c]
   exact F
inductive Plan where
 | done
 | q (i:Nat) (p:Plan)
 | e (i:Nat) (p:Plan)
 | e2 (i j:Nat) (p r:Plan)
def oH (md:Region.Mode) (ops:Array Oper) (kd:List Nat):Plan->Array Bool->Bool
 | .done,l=>(Region.ready md ops l).isEmpty
 | .q i p,l=>(Region.ready md ops l).contains i&&Region.free md ops l i&&qM kd i != 0&&oH md ops kd p (l.setIfInBounds i true)
 | .e i p,l=>Region.ready md ops l==[i]&&qM kd i==0&&oH md ops kd p (l.setIfInBounds i true)
 | .e2 i j p r,l=>Region.ready md ops l==[i,j]&&qM kd i==0&&qM kd j==0&&oH md ops kd p (l.setIfInBounds i true)&&oH md ops kd r (l.setIfInBounds j true)
def Plan.len:Plan->Nat
 | .done=>0
 | .q _ p=>p.len+1
 | .e _ p=>p.len+1
 | .e2 _ _ p _=>p.len+1
def Plan.even:Plan->Bool
 | .done=>true
 | .q _ p=>p.even
 | .e _ p=>p.even
 | .e2 _ _ p r=>p.even&&r.even&&p.len==r.len
def yE (P:Program) (md:Region.Mode) (ops:Array Oper) (B:World->Prop) (kd:List Nat) (Qp:List PanicEntry->World->Prop) (Q:Act->World->Prop):Plan->Act->World->Prop
 | .done,a,w=>Q a w
 | .q i p,a,w=>vV P md ops B kd Qp i (yE P md ops B kd Qp Q p) a w
 | .e i p,a,w=>vV P md ops B kd Qp i (yE P md ops B kd Qp Q p) a w
 | .e2 i j p r,a,w=>vV P md ops B kd Qp i (yE P md ops B kd Qp Q p) a w/\vV P md ops B kd Qp j (yE P md ops B kd Qp Q r) a w
theorem vN {Q:Act->World->Prop} (O:Region.noSelect ops=true):∀(p:Plan) (listed:Array Bool) (a:Act) (w:World),p.even=true->oH md ops kd p listed=true ->
  yE P md ops B kd Qp Q p a w->y9e P md ops B kd Qp Q p.len listed a w
 | .done,l,a,w,_,c,h=>⟨by simpa [oH] using c,h⟩
 | .q i p,l,a,w,b,c,h=>by
  simp only [oH,Bool.and_eq_true,List.contains_iff_mem,bne_iff_ne,ne_eq] at c
  obtain ⟨⟨⟨hr,s⟩,f⟩,c⟩:=c
  obtain ⟨_,o,g,_⟩:=mem_ready.1 hr
  unfold yE vV at h
  simp only [g] at h
  by_cases m:Region.wanted o (yielded ops a.tmps)=true
  ·rw [if_pos m,if_neg f] at h
   obtain ⟨v,h1,u⟩:=h
   exact z0s g (Region.noSelect_spec O) f _ _ _ _ (Region.free_spec g s) hr (.inl ⟨m,h1⟩) (vN O p _ _ _ b c u)
  ·rw [if_neg m] at h
   exact z0s g (Region.noSelect_spec O) f _ _ _ _ (Region.free_spec g s) hr (.inr ⟨by simpa using m,rfl⟩) (vN O p _ _ _ b c h)
 | .e i p,l,a,w,b,c,h=>by
  simp only [oH,Bool.and_eq_true,beq_iff_eq] at c
  obtain ⟨⟨hr,f⟩,c⟩:=c
  simp only [Plan.len,y9e]
  refine ⟨fun n=>(by rw [n] at hr;cases hr),fun j t=>?_⟩
  rw [hr,List.mem_singleton] at t
  subst t
  exact pN (fun a' w' _ d=>vN O p _ _ _ b c d) h
 | .e2 i j p r,l,a,w,b,c,h=>by
  simp only [oH,Bool.and_eq_true,beq_iff_eq] at c
  obtain ⟨⟨⟨⟨hr,f⟩,hk'⟩,c⟩,hp'⟩:=c
  simp only [Plan.even,Bool.and_eq_true,beq_iff_eq] at b
  simp only [Plan.len,y9e]
  refine ⟨fun n=>(by rw [n] at hr;cases hr),fun x k=>?_⟩
  rw [hr] at k
  rcases List.mem_cons.1 k with rfl | k
  ·exact pN (fun a' w' _ d=>vN O p _ _ _ b.1.1 c d) h.1
  ·rw [List.mem_singleton] at k
   subst k
   exact pN (fun a' w' _ d=>by have:=vN O r _ _ _ b.1.2 hp' d;rw [<- b.2] at this;exact this) h.2
def z6z (ops:Array Oper) (kd:List Nat) (p:Plan):Bool:=Region.noSelect ops&&p.even&&p.len==ops.size&&oH .any ops kd p (Array.replicate ops.size false)
theorem y8n {id:Nat} {l:List Oper} {Q:Exit->Act->World->Prop} {a:Act} {w:World} (kd:List Nat) (p:Plan) (B:World->Prop) (Qp:List PanicEntry->World->Prop)
  (N:P.follows .mixedOrders=true) (e:z6z l.toArray kd p=true) (g:∀c a w,a.defers=D->Qp c w->Q (.panic c) a w) (f:a.defers=D) (j:B { w with drawn:=w.drawn+1 })
  (h:yE P .any l.toArray B kd Qp (Q .normal) p a { w with drawn:=w.drawn+1 }):(Code.region id l.toArray true).wp P Q a w:=by
 simp only [z6z,Bool.and_eq_true,beq_iff_eq] at e
 obtain ⟨⟨⟨O,b⟩,hl⟩,d⟩:=e
 refine (wpIn_wide (n:=3)).1 (wpIn_region_any N (cD (r:=none) (Inv:=fun a=>a.defers=D) (kd:=kd) (B:=B) (Qp:=Qp) (Q:=Q .normal) (fun h=>absurd rfl h) (fun i o a v _ J=>by cases k:o.dst <;> exact J) (fun _ _ h=>h) (fun c a w J h=>g c a w J h) _ _ _ _ f (fun _=>j) ?_))
 have:=vN O p _ _ _ b d h
 rw [hl] at this
 exact this
end
end Go.Sw

namespace Go.Sw
variable {P:Program} {n:Nat} {E:List (Nat×Value)} {D:List Deferred} {a:Act} {Φ Ψ:Fz} {K:List Res} {w:World}
variable {dst:Option Tmp} {ty:TypeId} {pos:String} {aft:Array Edge} {g:Option (Nat×Bool)}
def Ok (P:Program) (a:Act) (op:Op) (ty:TypeId) (w:World) (v:Value):Prop :=
 ∀(dst:Option Tmp) (pos:String) (aft:Array Edge) (g:Option (Nat×Bool)),(execOp a.eval ⟨dst,op,ty,pos,aft,g⟩).run P w=.ok (.value v) w
abbrev Scalar (P:Program) (t:TypeId):Prop:=∀w,(isAgg t).run P w=.ok false w
abbrev AggT (P:Program) (t:TypeId):Prop:=∀w,(isAgg t).run P w=.ok true w
abbrev Under (P:Program) (t:TypeId) (d:TypeDesc):Prop:=∀w,(underlying t).run P w=.ok d w
abbrev SizeT (P:Program) (t:TypeId) (k:Nat):Prop:=∀w,(sizeOf t).run P w=.ok k w
abbrev ZeroT (P:Program) (t:TypeId) (v:Value):Prop:=∀w,(zeroValue t).run P w=.ok v w
theorem Ok.cast {op:Op} {v v':Value} (h:Ok P a op ty w v) (e:v=v'):Ok P a op ty w v':=e▸h
theorem jY {x:Operand} {v:Value} (J:EnvR n E D a) (b:ev E x=some v):Ok P a (.move x) ty w v:=fun _ _ _ _=>by
 simp only [execOp,J.ev b];rfl
theorem kZ {x:Operand} {v:Value} (J:EnvR n E D a) (b:ev E x=some v):Ok P a (.assign x) ty w v:=fun _ _ _ _=>by
 simp only [execOp,J.ev b];rfl
theorem j5c {c x y:Operand} {v:Value} {b:Bool} (J:EnvR n E D a) (d:ev E c=some (.bool b)) (e:ev E (if b then x else y)=some v):Ok P a (.pick c x y) ty w v:=fun _ _ _ _=>by
 cases b with
 | true=>simp only [execOp,J.ev d,J.ev (show ev E x=some v from e)];rfl
 | false=>simp only [execOp,J.ev d,J.ev (show ev E y=some v from e)];rfl
theorem oR {o:BinOp} {t t':TypeId} {x y:Operand} {vx vy v:Value} (J:EnvR n E D a) (c:ev E x=some vx) (d:ev E y=some vy)
  (b:(eqGuard o t x y vx vy).run P w=.ok () w) (hb:(binOp o t vx vy).run P w=.ok v w):Ok P a (.binOp o t x y t') ty w v:=fun _ _ _ _=>by
 simp only [execOp,J.ev c,J.ev d]
 simp [Sem.run_bind,b,hb,Result.andThen]
theorem z4b {o:BinOp} {t t':TypeId} {x y:Operand} {k:IntKind} {i j:Int} {v:Value} (J:EnvR n E D a) (b:ev E x=some (.int k i)) (c:ev E y=some (.int k j))
  (hb:(binOp o t (.int k i) (.int k j)).run P w=.ok v w):Ok P a (.binOp o t x y t') ty w v :=
 oR J b c (by cases o <;> rfl) hb
theorem z7r {t t':TypeId} {x y:Operand} {k:IntKind} {i j:Int} (z:Int) (J:EnvR n E D a) (b:ev E x=some (.int k i)) (c:ev E y=some (.int k j))
  (d:k.wrap (i+j)=z):Ok P a (.binOp .add t x y t') ty w (.int k z) :=
 z4b J b c (by subst d;simp [binOp,Op.intArith])
theorem jI {i:Int} (h:-9223372036854775808<=i/\i<=9223372036854775807):IntKind.i64.wrap i=i:=by
 simp only [IntKind.wrap,IntKind.signed,IntKind.bits]
 simp
 omega
theorem nA {t t':TypeId} {x y:Operand} {i j:Nat} (J:EnvR n E D a) (b:ev E x=some (.int .i64 (i:Int))) (c:ev E y=some (.int .i64 (j:Int)))
  (d:i+j<=9223372036854775807):Ok P a (.binOp .add t x y t') ty w (.int .i64 ((i+j:Nat):Int)) :=
 z7r _ J b c (by rw [jI (by omega)];omega)
theorem wG {t t':TypeId} {x y:Operand} {k:IntKind} {i j:Int} (z:Int) (J:EnvR n E D a) (b:ev E x=some (.int k i)) (c:ev E y=some (.int k j))
  (d:k.wrap (i - j)=z):Ok P a (.binOp .sub t x y t') ty w (.int k z) :=
 z4b J b c (by subst d;simp [binOp,Op.intArith])
theorem y_quo {t t':TypeId} {x y:Operand} {k:IntKind} {i j:Int} (z:Int) (J:EnvR n E D a) (c:ev E x=some (.int k i)) (d:ev E y=some (.int k j))
  (b:j≠0) (e:k.wrap (i.tdiv j)=z):Ok P a (.binOp .quo t x y t') ty w (.int k z) :=
 z4b J c d (by subst e;simp [binOp,Op.intDiv,b])
theorem y_rem {t t':TypeId} {x y:Operand} {k:IntKind} {i j:Int} (z:Int) (J:EnvR n E D a) (c:ev E x=some (.int k i)) (d:ev E y=some (.int k j))
  (b:j≠0) (e:i.tmod j=z):Ok P a (.binOp .rem t x y t') ty w (.int k z) :=
 z4b J c d (by subst e;simp [binOp,Op.intDiv,b])
theorem vO {t t':TypeId} {x y:Operand} {k:IntKind} {i j:Int} (b:Bool) (J:EnvR n E D a) (c:ev E x=some (.int k i)) (d:ev E y=some (.int k j))
  (hb:decide (i=j)=b):Ok P a (.binOp .eql t x y t') ty w (.bool b) :=
 z4b J c d (by subst hb;simp [binOp,Op.intCmp];rfl)
theorem nF {t t':TypeId} {x y:Operand} {k:IntKind} {i j:Int} (b:Bool) (J:EnvR n E D a) (c:ev E x=some (.int k i)) (d:ev E y=some (.int k j))
  (hb:(!decide (i=j))=b):Ok P a (.binOp .neq t x y t') ty w (.bool b) :=
 z4b J c d (by subst hb;simp [binOp,Op.intCmp];rfl)
theorem j7w {t t':TypeId} {x y:Operand} {k:IntKind} {i j:Int} (b:Bool) (J:EnvR n E D a) (c:ev E x=some (.int k i)) (d:ev E y=some (.int k j))
  (hb:decide (i < j)=b):Ok P a (.binOp .lss t x y t') ty w (.bool b) :=
 z4b J c d (by subst hb;simp [binOp,Op.intCmp])
theorem q2y {t t':TypeId} {x y:Operand} {k:IntKind} {i j:Int} (b:Bool) (J:EnvR n E D a) (c:ev E x=some (.int k i)) (d:ev E y=some (.int k j))
  (hb:decide (i<=j)=b):Ok P a (.binOp .leq t x y t') ty w (.bool b) :=
 z4b J c d (by subst hb;simp [binOp,Op.intCmp])
theorem q2x {t t':TypeId} {x y:Operand} {k:IntKind} {i j:Int} (b:Bool) (J:EnvR n E D a) (c:ev E x=some (.int k i)) (d:ev E y=some (.int k j))
  (hb:decide (j < i)=b):Ok P a (.binOp .gtr t x y t') ty w (.bool b) :=
 z4b J c d (by subst hb;simp [binOp,Op.intCmp])
theorem j0v {t t':TypeId} {x y:Operand} {k:IntKind} {i j:Int} (b:Bool) (J:EnvR n E D a) (c:ev E x=some (.int k i)) (d:ev E y=some (.int k j))
  (hb:decide (j<=i)=b):Ok P a (.binOp .geq t x y t') ty w (.bool b) :=
 z4b J c d (by subst hb;simp [binOp,Op.intCmp])
theorem z0m (s t:ByteArray):(s.toList==t.toList)=decide (s=t):=by
 rw [Bool.eq_iff_iff]
 simp only [beq_iff_eq,decide_eq_true_eq,ByteArray.toList_eq]
 constructor
 ·intro h
  cases s;cases t;simp_all
 ·rintro rfl;rfl
theorem j5d {t t':TypeId} {x y:Operand} {s u:ByteArray} (b:Bool) (J:EnvR n E D a) (c:ev E x=some (.string s)) (d:ev E y=some (.string u))
  (hb:decide (s=u)=b):Ok P a (.binOp .eql t x y t') ty w (.bool b) :=
 oR J c d rfl (by subst hb;simp [binOp,Op.stringOp,z0m])
theorem j5e {t t':TypeId} {x y:Operand} {s u:ByteArray} (b:Bool) (J:EnvR n E D a) (c:ev E x=some (.string s)) (d:ev E y=some (.string u))
  (hb:(!decide (s=u))=b):Ok P a (.binOp .neq t x y t') ty w (.bool b) :=
 oR J c d rfl (by subst hb;simp [binOp,Op.stringOp,z0m])
theorem z2s {t t':TypeId} {x y:Operand} {k:IntKind} {i j:Int} (J:EnvR n E D a) (b:ev E x=some (.int k i)) (c:ev E y=some (.int k j)):Ok P a (.binOp .geq t x y t') ty w (.bool (decide (j<=i))):=j0v _ J b c rfl
theorem mX {t t':TypeId} {x y:Operand} {k:IntKind} {i j:Int} (J:EnvR n E D a) (b:ev E x=some (.int k i)) (c:ev E y=some (.int k j)):Ok P a (.binOp .eql t x y t') ty w (.bool (decide (i=j))):=vO _ J b c rfl
theorem j5a {t t':TypeId} {x y:Operand} {k:IntKind} {i j:Nat} (J:EnvR n E D a) (b:ev E x=some (.int k (i:Int))) (c:ev E y=some (.int k (j:Int))):Ok P a (.binOp .leq t x y t') ty w (.bool (decide (i<=j))):=q2y _ J b c (decide_eq_decide.2 Int.ofNat_le)
theorem j4z {t t':TypeId} {x y:Operand} {k:IntKind} {i j:Nat} (J:EnvR n E D a) (b:ev E x=some (.int k (i:Int))) (c:ev E y=some (.int k (j:Int))):Ok P a (.binOp .gtr t x y t') ty w (.bool (decide (j < i))):=q2x _ J b c (decide_eq_decide.2 Int.ofNat_lt)
theorem mY {t t':TypeId} {x y:Operand} {k:IntKind} {i j:Nat} (J:EnvR n E D a) (b:ev E x=some (.int k (i:Int))) (c:ev E y=some (.int k (j:Int))):Ok P a (.binOp .eql t x y t') ty w (.bool (decide (i=j))):=vO _ J b c (decide_eq_decide.2 (by omega))
theorem z7s {t t':TypeId} {x y:Operand} {s u:ByteArray} (J:EnvR n E D a) (b:ev E x=some (.string s)) (c:ev E y=some (.string u)):Ok P a (.binOp .eql t x y t') ty w (.bool (decide (s=u))):=j5d _ J b c rfl
theorem j7x {t t':TypeId} {x y:Operand} {s u:ByteArray} (J:EnvR n E D a) (b:ev E x=some (.string s)) (c:ev E y=some (.string u)):Ok P a (.binOp .neq t x y t') ty w (.bool (!decide (s=u))):=j5e _ J b c rfl
theorem vP {t t':TypeId} {x y:Operand} {s u:ByteArray} (J:EnvR n E D a) (b:ev E x=some (.string s)) (c:ev E y=some (.string u))
  (hb:s.size+u.size<=9223372036854775807):Ok P a (.binOp .add t x y t') ty w (.string (s++u)) :=
 oR J b c rfl (by
  have:¬(((s.size+u.size:Nat):Int) > IntKind.i64.max):=by simp [IntKind.max,IntKind.signed,IntKind.bits];omega
  simp only [binOp,Op.stringOp,if_neg this];rfl)
theorem z4c {x:Operand} {t:TypeId} {b:Bool} (J:EnvR n E D a) (c:ev E x=some (.bool b)):Ok P a (.unOp .not t x) ty w (.bool (!b)):=fun _ _ _ _=>by
 simp only [execOp,J.ev c];rfl
theorem y_neg {x:Operand} {t:TypeId} {k:IntKind} {i:Int} (z:Int) (J:EnvR n E D a) (b:ev E x=some (.int k i)) (c:k.wrap (0 - i)=z):Ok P a (.unOp .neg t x) ty w (.int k z):=fun _ _ _ _=>by
 subst c;simp only [execOp,J.ev b];simp [Op.unary,Op.intArith,Sem.run_bind,Result.andThen]
theorem uG {x:Operand} {i:Nat} {vs:List Value} {v:Value} (J:EnvR n E D a) (c:ev E x=some (.tuple vs.toArray)) (b:vs[i]? = some v):Ok P a (.extract x i) ty w v:=fun _ _ _ _=>by
 simp only [execOp,J.ev c];simp [Instr.extract,b,Sem.run_bind,Result.andThen]
theorem z5n {x:Operand} {p:Addr} (J:EnvR n E D a) (b:ev E x=some (.pointer (some p))):Ok P a (.nilCheck x) ty w (.pointer (some p)):=fun _ _ _ _=>by
 simp only [execOp,J.ev b];rfl
theorem z5m {fn:Fn} {fs cs:Array Operand} {vfs vcs:List Value} (J:EnvR n E D a) (c:evs E fs.toList=some vfs) (b:evs E cs.toList=some vcs) :
  Ok P a (.makeFunc fn fs cs) ty w (.func fn vfs.toArray vcs.toArray):=fun _ _ _ _=>by
 simp only [execOp,J.evsA c,J.evsA b];rfl
theorem qZ {t:TypeId} {x:Operand} {v:Value} {d:TypeDesc} (J:EnvR n E D a) (e:ev E x=some v) (c:Under P t d) (b:∀ms,d≠.interface ms) :
  Ok P a (.makeInterface t x) ty w (.iface t v):=fun _ _ _ _=>by
 simp only [execOp,J.ev e]
 have:=c w
 simp only [Instr.makeInterface,Sem.run_bind,this,Result.andThen]
 cases d <;> first | rfl | exact absurd rfl (b _)
def nth:List Value->Nat->Option Value
 | [],_=>none
 | v::_,0=>some v
 | _::l,i+1=>nth l i
def z6l (l:List Value):Nat->List Value
 | 0=>l
 | i+1=>(z6l l i).tail
def z6r:List Value->Nat->List Value
 | _,0=>[]
 | [],_+1=>[]
 | x::l,i+1=>x::z6r l i
theorem z5a:∀(l:List Value) (i:Nat),nth l i=l[i]?
 | [],_=>rfl
 | _::_,0=>rfl
 | _::l,i+1=>by simp only [nth,z5a l i,List.getElem?_cons_succ]
theorem z6m (l:List Value):∀(i:Nat),z6l l i=l.drop i
 | 0=>rfl
 | i+1=>by simp [z6l,z6m l i]
theorem z6s:∀(l:List Value) (i:Nat),z6r l i=l.take i
 | l,0=>by cases l <;> rfl
 | [],_+1=>rfl
 | _::l,i+1=>by simp only [z6r,z6s l i,List.take_succ_cons]
def y2i:List Value->List Value->List Value
 | [],cs=>cs
 | v::vs,[]=>v::vs
 | v::vs,_::cs=>v::y2i vs cs
theorem j7b:∀(vs cs:List Value),y2i vs cs=vs++cs.drop vs.length
 | [],cs=>by simp [y2i]
 | v::vs,[]=>by simp [y2i]
 | v::vs,_::cs=>by simp [y2i,j7b vs cs]
def mN:List Value->Nat->List Value->List Value
 | cs,0,vs=>y2i vs cs
 | [],_+1,vs=>vs
 | c::cs,i+1,vs=>c::mN cs i vs
theorem tY:∀(cs:List Value) (off:Nat) (vs:List Value),mN cs off vs=cs.take off++(vs++cs.drop (off+vs.length))
 | cs,0,vs=>by cases cs <;> simp [mN,j7b]
 | [],_+1,vs=>by simp [mN]
 | c::cs,i+1,vs=>by
  simp only [mN,tY cs i vs,List.take_succ_cons,List.cons_append]
  rw [show i+1+vs.length=(i+vs.length)+1 by omega,List.drop_succ_cons]
def ob (cs:List Value) (t:TypeId):Obj:=.cells cs.toArray t (0,0)
theorem Sees.cell (N:Sees Φ K w) {i b:Nat} {cs:List Value} {t:TypeId} (a:qU K i=some (.blk b (ob cs t))) (j:Nat):w.cell? ⟨b,j,none⟩=nth cs j:=by
 have:w.heap[b]? = some (ob cs t):=N.own _ (qV a)
 simp [World.cell?,this,ob,z5a]
theorem Sees.at (N:Sees Φ K w) {p:Addr} {cs:List Value} (d:At Φ p cs):∀j v,cs[j]? = some v->w.cell? (p.add j)=some v:=by
 intro j v g
 obtain ⟨arr,T,fr,h1,f⟩:=d.ex
 have O:=d.spot
 have c:=N.fz _ _ h1
 have a:=f j v g
 cases p with
 | mk b o s=>
  simp only at O a c
  subst O
  have e:(⟨b,o,none⟩:Addr).add j=⟨b,o+j,none⟩:=by
   unfold Addr.add;split
   ·subst_vars;rfl
   ·rfl
  rw [e]
  simp [World.cell?,c,a]
theorem qD (i:Nat) {x:Operand} {T:TypeId} {b off:Nat} {cs:List Value} {t:TypeId} {v:Value} (J:EnvR n E D a) (N:Sees Φ K w)
  (f:ev E x=some (.pointer (some ⟨b,off,none⟩))) (d:qU K i=some (.blk b (ob cs t))) (e:nth cs off=some v) (c:Scalar P T):Ok P a (.load T x) ty w v:=fun _ _ _ _=>by
 have h1:=N.cell d off
 rw [e] at h1
 simp only [execOp,J.ev f]
 simp [Instr.loadAt,Instr.sureAddr,loadVar,Sem.run_bind,c w,Result.andThen,load,Sem.run,h1]
theorem vS (i:Nat) {x:Operand} {T:TypeId} {b off k:Nat} {cs vs:List Value} {t:TypeId} (J:EnvR n E D a) (N:Sees Φ K w)
  (o:ev E x=some (.pointer (some ⟨b,off,none⟩))) (m:qU K i=some (.blk b (ob cs t))) (h:AggT P T) (g:SizeT P T k) (f:z6r (z6l cs off) k=vs) (hl:vs.length=k) :
  Ok P a (.load T x) ty w (.agg vs.toArray):=fun _ _ _ _=>by
 have l:∀j v,vs[j]? = some v->w.cell? ((⟨b,off,none⟩:Addr).add j)=some v:=fun j v c=>by
  have h1:=N.cell m (off+j)
  rw [z6s,z6m] at f
  have d:j < k:=by rw [<- hl];exact (List.getElem?_eq_some_iff.1 c).1
  rw [<- f,List.getElem?_take_of_lt d,List.getElem?_drop] at c
  rw [z5a,c] at h1
  unfold Addr.add;split
  ·subst_vars;simpa using h1
  ·exact h1
 have e:=run_loadCells_list (P:=P) (w:=w) ⟨b,off,none⟩ vs l
 rw [hl] at e
 simp only [execOp,J.ev o]
 simp [Instr.loadAt,Instr.sureAddr,loadVar,Sem.run_bind,h w,g w,Result.andThen,e]
theorem q2z {x:Operand} {T:TypeId} {p:Addr} {cs:List Value} {v:Value} (j:Nat) (J:EnvR n E D a) (N:Sees Φ K w)
  (e:ev E x=some (.pointer (some (p.add j)))) (d:At Φ p cs) (b:nth cs j=some v) (c:Scalar P T):Ok P a (.load T x) ty w v:=fun _ _ _ _=>by
 rw [z5a] at b
 have h1:=N.at d j v b
 simp only [execOp,J.ev e]
 simp [Instr.loadAt,Instr.sureAddr,loadVar,Sem.run_bind,c w,Result.andThen,load,Sem.run,h1]
theorem add_zero (p:Addr):p.add 0=p:=by simp [Addr.add]
theorem add_add (p:Addr) (i j:Nat) (a:p.spot=none):(p.add i).add j=p.add (i+j):=by
 cases p with
 | mk b o s=>
  simp only at a;subst a
  unfold Addr.add
  by_cases c:i=0 <;> by_cases d:j=0 <;> simp_all <;> omega
theorem j5b {x:Operand} {T:TypeId} {p:Addr} {cs:List Value} {v:Value} (J:EnvR n E D a) (N:Sees Φ K w)
  (e:ev E x=some (.pointer (some p))) (c:At Φ p cs) (d:nth cs 0=some v) (b:Scalar P T):Ok P a (.load T x) ty w v :=
 q2z 0 J N (by rw [add_zero];exact e) c d b
theorem vK {x:Operand} {T:TypeId} {p:Addr} {k:Nat} {cs vs:List Value} (j:Nat) (J:EnvR n E D a) (N:Sees Φ K w)
  (m:ev E x=some (.pointer (some (p.add j)))) (e:At Φ p cs) (h:AggT P T) (g:SizeT P T k) (f:z6r (z6l cs j) k=vs) (hl:vs.length=k) :
  Ok P a (.load T x) ty w (.agg vs.toArray):=fun _ _ _ _=>by
 have l:∀i v,vs[i]? = some v->w.cell? ((p.add j).add i)=some v:=fun i v b=>by
  rw [z6s,z6m] at f
  have c:i < k:=by rw [<- hl];exact (List.getElem?_eq_some_iff.1 b).1
  rw [<- f,List.getElem?_take_of_lt c,List.getElem?_drop] at b
  rw [add_add p j i e.spot]
  exact N.at e _ v b
 have d:=run_loadCells_list (P:=P) (w:=w) (p.add j) vs l
 rw [hl] at d
 simp only [execOp,J.ev m]
 simp [Instr.loadAt,Instr.sureAddr,loadVar,Sem.run_bind,h w,g w,Result.andThen,d]
theorem j0y {x:Operand} {T:TypeId} {p:Addr} {k:Nat} {cs:List Value} (J:EnvR n E D a) (N:Sees Φ K w)
  (e:ev E x=some (.pointer (some p))) (d:At Φ p cs) (c:AggT P T) (b:SizeT P T k) (hl:cs.length=k) :
  Ok P a (.load T x) ty w (.agg cs.toArray) :=
 vK 0 J N (by rw [add_zero];exact e) d c b (by rw [z6s,z6m,<- hl];simp) hl
def zM (P:Program) (s:TypeId) (f off:Nat):Prop:=∀(p:Addr) (w:World),(Instr.fieldAt s (.pointer (some p)) f).run P w=.ok (.pointer (some (p.add off))) w
theorem zH {s:TypeId} {fs:Array Field} {f off k:Nat} {fd:Field} (d:Under P s (.struct fs)) (a:fs[f]? = some fd) (O:SizeT P fd.type k) (b:k≠0) (c:fd.offset=off):zM P s f off:=fun p w=>by
 subst c
 simp [Instr.fieldAt,d w,a,Instr.sureAddr,fieldPlace,O w,b]
theorem z2r {x:Operand} {s:TypeId} {f off:Nat} {p:Addr} (J:EnvR n E D a) (c:ev E x=some (.pointer (some p))) (b:zM P s f off) :
  Ok P a (.fieldAddr s x f) ty w (.pointer (some (p.add off))):=fun _ _ _ _=>by
 simp only [execOp,J.ev c]
 simp [Sem.run_bind,b p w,Result.andThen]
theorem jE {x:Operand} {s:TypeId} {f off b o z:Nat} (J:EnvR n E D a) (d:ev E x=some (.pointer (some ⟨b,o,none⟩))) (c:zM P s f off) (g:o+off=z) :
  Ok P a (.fieldAddr s x f) ty w (.pointer (some ⟨b,z,none⟩)):=by
 have h:=z2r (P:=P) (ty:=ty) (w:=w) J d c
 have e:(⟨b,o,none⟩:Addr).add off=⟨b,z,none⟩:=by
  subst g
  unfold Addr.add;split
  ·subst_vars;rfl
  ·rfl
 rwa [e] at h
theorem y8o {x:Operand} {s:TypeId} {f off j z:Nat} {p:Addr} {cs:List Value} (J:EnvR n E D a) (d:ev E x=some (.pointer (some (p.add j)))) (c:At Φ p cs) (b:zM P s f off) (e:j+off=z) :
  Ok P a (.fieldAddr s x f) ty w (.pointer (some (p.add z))):=by
 have h:=z2r (P:=P) (ty:=ty) (w:=w) J d b
 rw [add_add p j off c.spot,e] at h
 exact h
theorem qX (i:Nat) {x ix:Operand} {t e:TypeId} {kk:IntKind} {p:Addr} {len cap k:Nat} (J:EnvR n E D a) (d:ev E x=some (.slice (some p) len cap))
  (b:ev E ix=some (.int kk (i:Int))) (c:Under P t (.slice e)) (O:SizeT P e k) (hb:i < len) :
  Ok P a (.indexAddr t x ix) ty w (.pointer (some (p.add (i * k)))):=fun _ _ _ _=>by
 simp only [execOp,J.ev d,J.ev b]
 simp [Instr.indexAt,asIntOf,Sem.run_bind,c w,O w,Result.andThen,hb]
theorem j7v {x:Operand} {t:TypeId} {fs:Array Field} {i:Nat} {fd:Field} {cs:List Value} {v:Value} (e:Under P t (.struct fs)) (d:fs[i]? = some fd) (c:Scalar P fd.type)
  (J:EnvR n E D a) (f:ev E x=some (.agg cs.toArray)) (b:nth cs fd.offset=some v):Ok P a (.field t x i) ty w v:=fun _ _ _ _=>by
 rw [z5a] at b
 simp only [execOp,J.ev f]
 have hv':cs.toArray[fd.offset]? = some v:=by simpa using b
 simp [Instr.field,Sem.run_bind,e w,d,asAgg,part,c w,Result.andThen,b]
theorem xF (i:Nat) (c:UInt8) {x ix:Operand} {t:TypeId} {kk:IntKind} {s:ByteArray} (J:EnvR n E D a) (f:ev E x=some (.string s))
  (d:ev E ix=some (.int kk (i:Int))) (e:Under P t .string) (b:s[i]? = some c):Ok P a (.index t x ix) ty w (.int .u8 c.toNat):=fun _ _ _ _=>by
 simp only [execOp,J.ev f,J.ev d]
 simp [Instr.index,asIntOf,Sem.run_bind,e w,Result.andThen,b]
theorem y1e {x:Operand} {t e:TypeId} {p:Option Addr} {len cap:Nat} (J:EnvR n E D a) (c:ev E x=some (.slice p len cap)) (b:Under P t (.slice e)) :
  Ok P a (.call { callee:=.builtin .len,args:=#[x],argTypes:=#[t] }) ty w (.int .i64 (len:Int)):=fun _ _ _ _=>by
 simp only [execOp,resolve]
 simp [Sem.run_bind,Result.andThen,invoke,builtin,J.ev c,Builtin.len_,b w,goInt]
theorem x2t {x:Operand} {t:TypeId} {s:ByteArray} (J:EnvR n E D a) (c:ev E x=some (.string s)) (b:Under P t .string) :
  Ok P a (.call { callee:=.builtin .len,args:=#[x],argTypes:=#[t] }) ty w (.int .i64 (s.size:Int)):=fun _ _ _ _=>by
 simp only [execOp,resolve]
 simp [Sem.run_bind,Result.andThen,invoke,builtin,J.ev c,Builtin.len_,b w,goInt]
theorem vE {x:Operand} {t:TypeId} {lo d:Option Operand} {s:ByteArray} (l h:Nat) (J:EnvR n E D a) (f:ev E x=some (.string s)) (c:Under P t .string)
  (hl:match lo with | none=>l=0 | some o=>∃k,ev E o=some (.int k (l:Int))) (b:match d with | none=>h=s.size | some o=>∃k,ev E o=some (.int k (h:Int))) (h1:l<=h) (e:h<=s.size) :
  Ok P a (.slice t x lo d none) ty w (.string (s.extract l h)):=fun _ _ _ _=>by
 simp only [execOp,J.ev f,Instr.sliceAt]
 cases lo <;> cases d <;> simp only at hl b
 ·subst hl;subst b
  simp [Sem.run_bind,c w,Instr.slice,Instr.sliceBounds]
 ·obtain ⟨k,b⟩:=b;subst hl
  simp [Sem.run_bind,c w,Instr.slice,Instr.sliceBounds,J.ev b,Instr.sliceBound,asIntOf,e]
 ·obtain ⟨k,hl⟩:=hl;subst b
  simp [Sem.run_bind,c w,Instr.slice,Instr.sliceBounds,J.ev hl,Instr.sliceBound,asIntOf,h1]
 ·obtain ⟨k,hl⟩:=hl;obtain ⟨k',b⟩:=b
  simp [Sem.run_bind,c w,Instr.slice,Instr.sliceBounds,J.ev hl,J.ev b,Instr.sliceBound,asIntOf,h1,e]
variable {Kn:Value->World->Prop} {Qp:List PanicEntry->World->Prop} {op:Op} {v:Value} {d:Nat}
theorem dO (b:Ok P a op ty w v) (k:Kn v w):Oper.eff P ⟨dst,op,ty,pos,aft,g⟩ a w Kn Qp:=by
 unfold Oper.eff;rw [b];exact k
theorem pO {w:World} {o:Obj} {b:Nat} (hb:b < w.heap.size):({ w with heap:=w.heap.push o }:World).heap[b]? = w.heap[b]? := by
 simp only;rw [Array.getElem?_push_lt hb,<- Array.getElem?_eq_getElem hb]
theorem Mem.push (N:Mem Φ K w) (o:Obj):Mem Φ (.blk w.heap.size o::K) { w with heap:=w.heap.push o } :=
 N.more rfl rfl (fun b hb=>pO hb) (by simp [Res.sat]) (by simp [Res.foot])
theorem yT {T:TypeId} {z:Value} {cs:List Value} (N:Mem Φ K w) (d:ZeroT P T z) (c:z.cells.toList=cs)
  (k:∀b w',Mem Φ (.blk b (ob cs T)::K) w'->Kn (.pointer (some ⟨b,0,none⟩)) w'):Oper.eff P ⟨dst,.alloc T,ty,pos,aft,g⟩ a w Kn Qp:=by
 unfold Oper.eff
 have:(execOp a.eval ⟨dst,.alloc T,ty,pos,aft,g⟩).run P w=.ok (.value (.pointer (some ⟨w.heap.size,0,none⟩))) { w with heap:=w.heap.push (ob cs T) }:=by
  subst c
  simp [execOp,Instr.alloc,Sem.run_bind,d w,newVar,newRow,ob]
 rw [this]
 exact k _ _ (N.push _)
theorem jA {T:TypeId} {x:Operand} {v:Value} {cs:List Value} (J:EnvR n E D a) (N:Mem Φ K w) (d:ev E x=some v) (c:v.cells.toList=cs)
  (k:∀b w',Mem Φ (.blk b (ob cs T)::K) w'->Kn (.pointer (some ⟨b,0,none⟩)) w'):Oper.eff P ⟨dst,.box T x,ty,pos,aft,g⟩ a w Kn Qp:=by
 unfold Oper.eff
 have:(execOp a.eval ⟨dst,.box T x,ty,pos,aft,g⟩).run P w=.ok (.value (.pointer (some ⟨w.heap.size,0,none⟩))) { w with heap:=w.heap.push (ob cs T) }:=by
  subst c
  simp [execOp,Instr.box,Sem.run_bind,newVar,newRow,ob,J.ev d]
 rw [this]
 exact k _ _ (N.push _)
theorem yA (i:Nat) {x y:Operand} {T d:TypeId} {b off k:Nat} {v:Value} {cs vs:List Value} (J:EnvR n E D a) (N:Mem Φ K w)
  (q:ev E x=some (.pointer (some ⟨b,off,none⟩))) (r:ev E y=some v) (l:qU K i=some (.blk b (ob cs d))) (f:v.cells.toList=vs) (m:SizeT P T k) (hl:vs.length=k)
  (h1:vs.all Value.oneCell'=true) (o:Nat.ble (off+vs.length) cs.length=true)
  (kk:∀w',Mem Φ (pU K i (.blk b (ob (mN cs off vs) d))) w'->Kn undef w'):Oper.eff P ⟨dst,.store T x y,ty,pos,aft,g⟩ a w Kn Qp:=by
 have hb:w.heap[b]? = some (.cells cs.toArray d (0,0)):=N.own _ (qV l)
 have hf':off+vs.length<=cs.length:=by simpa using o
 have hr:=run_storeCells_at P b off d vs 0 cs.toArray w hb (by simpa using hf') (fun v p=>List.all_eq_true.1 h1 v p)
 have j:v.cells.size=k:=by rw [<- hl,<- f];simp
 unfold Oper.eff
 have:(execOp a.eval ⟨dst,.store T x y,ty,pos,aft,g⟩).run P w=.ok .skip (w.setRow b (mN cs off vs).toArray):=by
  simp only [execOp,J.ev q,J.ev r]
  simp only [Nat.add_zero,List.toList_toArray] at hr
  simp [Instr.storeAt,Instr.sureAddr,storeVar,Sem.run_bind,m w,j,f,hr,tY]
 rw [this]
 refine kk _ (N.upd l rfl rfl (fun c f h=>setRow_other w b c _ (fun e=>h (by simp [Res.foot,e]))) ?_ (.inl rfl))
 exact setRow_heap w b _ _ d _ hb
def built (P:Program) (t:TypeId) (parts:List (Nat×Value)) (len:Nat) (cs:List Value) (e:TypeId):Prop :=
 ∀w,(Instr.buildSlice t len parts.toArray).run P w=.ok (.slice (some ⟨w.heap.size,0,none⟩) len len) { w with heap:=w.heap.push (ob cs e) }
def evp (E:List (Nat×Value)):List (Nat×Operand)->Option (List (Nat×Value))
 | []=>some []
 | (i,x)::xs=>match ev E x,evp E xs with
  | some v,some vs=>some ((i,v)::vs)
  | _,_=>none
theorem EnvR.evp (h:EnvR n E D a):∀{xs:List (Nat×Operand)} {vs:List (Nat×Value)},Sw.evp E xs=some vs->xs.map (fun (i,x)=>(i,a.eval x))=vs
 | [],vs,b=>by simp [Sw.evp] at b;simp [b]
 | (i,x)::xs,vs,b=>by
  simp only [Sw.evp] at b
  split at b
  ·rename_i v vs' h1 c
   simp only [Option.some.injEq] at b
   subst b
   simp [h.ev h1,EnvR.evp h c]
  ·cases b
theorem EnvR.evpA (h:EnvR n E D a) {xs:Array (Nat×Operand)} {vs:List (Nat×Value)} (b:Sw.evp E xs.toList=some vs):xs.map (fun (i,x)=>(i,a.eval x))=vs.toArray:=by
 apply Array.ext'
 simp [h.evp b]
theorem z0u {t:TypeId} {ps:Array (Nat×Operand)} {vs:List (Nat×Value)} {cs:List Value} (J:EnvR n E D a) (b:evp E ps.toList=some vs) (hb:P.built t vs=some cs.toArray) :
  Ok P a (.build t ps) ty w (.agg cs.toArray):=fun _ _ _ _=>by
 simp only [execOp,J.evpA b]
 simp [Sem.run_bind,run_build w t vs.toArray cs.toArray (by simpa using hb),Result.andThen]
theorem kL {t e:TypeId} {len sz:Nat} {ps:Array (Nat×Operand)} {vs:List (Nat×Value)} {cs:List Value} (J:EnvR n E D a) (N:Mem Φ K w) (d:evp E ps.toList=some vs) (hb:built P t vs len cs e)
  (hl:cs.length=len * sz) (c:len<=maxLen) (k:∀v w',Mem Φ (.gs v e sz cs::K) w'->(∃p,v=.slice p len len)->Kn v w'):Oper.eff P ⟨dst,.buildSlice t len ps,ty,pos,aft,g⟩ a w Kn Qp:=by
 unfold Oper.eff
 have:(execOp a.eval ⟨dst,.buildSlice t len ps,ty,pos,aft,g⟩).run P w=.ok (.value (.slice (some ⟨w.heap.size,0,none⟩) len len)) { w with heap:=w.heap.push (ob cs e) }:=by
  simp only [execOp,J.evpA d]
  simp [Sem.run_bind,hb w]
 rw [this]
 refine k _ _ (N.more rfl rfl (fun b hb=>pO hb) ⟨len,hl,.inr ⟨w.heap.size,len,cs.toArray,rfl,Nat.zero_le _,by simp [ob],Nat.le_refl _,c,by simp [hl],by simp [<- hl]⟩⟩ (by simp [Res.foot,Value.ownBlock])) ⟨_,rfl⟩
theorem aR {f:FuncId} {xs:Array Operand} {ts:Array TypeId} {vs:List Value} {R:Ending->World->Prop} (J:EnvR n E D a) (h:evs E xs.toList=some vs)
  (d:∀args w,(callFunc f args).run P w=.ok (.enter f args) w) (b:Calls P f vs.toArray w R)
  (k:∀v w',R (.returned v) w'->Kn v w') (kp:∀c w',R (.panicked c) w'->Qp c w') (ko:∀w',R .outgrown w'->False) :
  Oper.eff P ⟨dst,.call { callee:=.value (.func f),args:=xs,argTypes:=ts },ty,pos,aft,g⟩ a w Kn Qp:=by
 unfold Oper.eff
 have:(execOp a.eval ⟨dst,.call { callee:=.value (.func f),args:=xs,argTypes:=ts },ty,pos,aft,g⟩).run P w=.ok (.enter f vs.toArray) w:=by
  simp [execOp,resolve,J.evsA h,Act.eval,Deferred.ofValue,invoke,d]
 rw [this]
 exact b.mono fun e w' hr=>by cases e <;> first | exact k _ _ hr | exact kp _ _ hr | exact ko _ hr
theorem q0b {f:FuncId} {y:Operand} {fs cs:List Value} {xs:Array Operand} {ts:Array TypeId} {vs:List Value} {R:Ending->World->Prop} (J:EnvR n E D a) (i:ev E y=some (.func (.func f) fs.toArray cs.toArray)) (h:evs E xs.toList=some vs)
  (d:∀args w,(callFunc f args).run P w=.ok (.enter f args) w) (b:Calls P f (fs++vs++cs).toArray w R)
  (k:∀v w',R (.returned v) w'->Kn v w') (kp:∀c w',R (.panicked c) w'->Qp c w') (ko:∀w',R .outgrown w'->False) :
  Oper.eff P ⟨dst,.call { callee:=.value y,args:=xs,argTypes:=ts },ty,pos,aft,g⟩ a w Kn Qp:=by
 unfold Oper.eff
 have:(execOp a.eval ⟨dst,.call { callee:=.value y,args:=xs,argTypes:=ts },ty,pos,aft,g⟩).run P w=.ok (.enter f (fs++vs++cs).toArray) w:=by
  simp only [execOp,resolve,J.evsA h,J.ev i]
  simp [Deferred.ofValue,invoke,d]
 rw [this]
 exact b.mono fun e w' hr=>by cases e <;> first | exact k _ _ hr | exact kp _ _ hr | exact ko _ hr
theorem kF {x:Operand} {t:TypeId} {v:Value} (J:EnvR n E D a) (c:ev E x=some (.iface t v)) (b:(Instr.panic (.iface t v)).run P w=.halt (.panic (.iface t v)) w)
  (kp:Qp [{ v:=.iface t v,recovered:=false }] w):Oper.eff P ⟨dst,.panic x,ty,pos,aft,g⟩ a w Kn Qp:=by
 unfold Oper.eff
 have:(execOp a.eval ⟨dst,.panic x,ty,pos,aft,g⟩).run P w=.halt (.panic (.iface t v)) w:=by
  simp [execOp,J.ev c,b]
 rw [this]
 exact kp
section
variable {ops:Array Oper} {rest:List Oper} {Q:Exit->Act->World->Prop}
theorem st {o:Oper} (J:EnvR n E D a) (g:o.dst=some d) (b:Nat.blt d n=true) (i:o.guard=none)
  (h:Oper.eff P o a w (fun v w'=>∀a,EnvR n ((d,v)::E) D a->wpList P ops Q rest a w') (fun c w'=>∀a,a.defers=D->Q (.panic c) a w')):wpList P ops Q (o::rest) a w:=by
 refine wpList_plain i fun L e=>uF (xL h (fun v w' j=>e _ _ ?_) (fun c w' f=>f _ J.defs))
 rw [g];exact j _ (J.put b)
theorem st0 {o:Oper} (J:EnvR n E D a) (e:o.dst=none) (f:o.guard=none)
  (h:Oper.eff P o a w (fun _ w'=>∀a,EnvR n E D a->wpList P ops Q rest a w') (fun c w'=>∀a,a.defers=D->Q (.panic c) a w')):wpList P ops Q (o::rest) a w:=by
 refine wpList_plain f fun L b=>uF (xL h (fun v w' g=>b _ _ ?_) (fun c w' d=>d _ J.defs))
 rw [e];exact g _ J.put_none
theorem kB (J:EnvR n E D a) (c:Ok P a op ty w v) (b:Nat.blt d n=true) (k:∀a,EnvR n ((d,v)::E) D a->wpList P ops Q rest a w) :
  wpList P ops Q (⟨some d,op,ty,pos,aft,none⟩::rest) a w :=
 st J rfl b rfl (dO c k)
theorem j5f (J:EnvR n E D a) {j t:Nat} {b:Bool} (c:ops[j]?.bind (·.dst)=some t) (d:get E t=some (.bool b)):yielded ops a.tmps j=some b:=by
 simp [yielded,c,J.env t _ d]
theorem aA (J:EnvR n E D a) {o:Oper} {j t:Nat} {b:Bool} (c:o.guard=some (j,b)) (d:ops[j]?.bind (·.dst)=some t) (e:get E t=some (.bool b)):Region.wanted o (yielded ops a.tmps)=true:=by
 simp [Region.wanted,c,j5f J d e]
def q4p:Value->Bool->Bool
 | .bool c,b=>c != b
 | _,_=>true
theorem z3p (J:EnvR n E D a) {o:Oper} {j t:Nat} {b:Bool} {v:Value} (e:o.guard=some (j,b)) (f:ops[j]?.bind (·.dst)=some t) (g:get E t=some v) (hb:q4p v b=true):Region.wanted o (yielded ops a.tmps)=false:=by
 have h:yielded ops a.tmps j≠some b:=by
  simp only [yielded,f,Option.bind_some,J.env t _ g]
  cases v <;> simp_all [q4p]
 cases d:yielded ops a.tmps j with
 | none=>simp [Region.wanted,e,d]
 | some c=>rw [d] at h;simp only [ne_eq,Option.some.injEq] at h;simp [Region.wanted,e,d,h]
theorem g_no {o:Oper} {j t:Nat} {b:Bool} (J:EnvR n E D a) (e:o.dst=some d) (f:o.guard=some (j,b)) (c:Nat.blt d n=true) (g:ops[j]?.bind (·.dst)=some t) (h:get E t=some v) (hb:q4p v b=true)
  (k:∀a,EnvR n ((d,undef)::E) D a->wpList P ops Q rest a w):wpList P ops Q (o::rest) a w:=by
 unfold wpList
 rw [if_neg (by rw [z3p J f g h hb];simp),e]
 exact k _ (J.put c)
theorem j6n {o:Oper} {j t:Nat} {b:Bool} (J:EnvR n E D a) (k:o.dst=some d) (l:o.guard=some (j,b)) (e:Nat.blt d n=true) (m:ops[j]?.bind (·.dst)=some t) (f:get E t=some (.bool b))
  (h:Oper.eff P o a w (fun v w'=>∀a,EnvR n ((d,v)::E) D a->wpList P ops Q rest a w') (fun c w'=>∀a,a.defers=D->Q (.panic c) a w')):wpList P ops Q (o::rest) a w:=by
 refine wpList_step fun L g=>?_
 rw [if_pos (aA J l m f)]
 refine uF (xL h (fun v w' f=>g _ _ ?_) (fun c w' i=>i _ J.defs))
 rw [k];exact f _ (J.put e)
theorem g_yes0 {o:Oper} {j t:Nat} {b:Bool} (J:EnvR n E D a) (g:o.dst=none) (i:o.guard=some (j,b)) (k:ops[j]?.bind (·.dst)=some t) (d:get E t=some (.bool b))
  (h:Oper.eff P o a w (fun _ w'=>∀a,EnvR n E D a->wpList P ops Q rest a w') (fun c w'=>∀a,a.defers=D->Q (.panic c) a w')):wpList P ops Q (o::rest) a w:=by
 refine wpList_step fun L e=>?_
 rw [if_pos (aA J i k d)]
 refine uF (xL h (fun v w' d=>e _ _ ?_) (fun c w' f=>f _ J.defs))
 rw [g];exact d _ J.put_none
end
end Go.Sw

namespace Go.Sw
variable {P:Program} {n:Nat} {E:List (Nat×Value)} {D:List Deferred} {a:Act} {Φ Ψ:Fz} {K:List Res} {w:World}
def oU:Nat->List Value->List (Nat×Value)
 | _,[]=>[]
 | i,v::vs=>(i,v)::oU (i+1) vs
theorem oV:∀(vs:List Value) (i t:Nat) (v:Value),get (oU i vs) t=some v->i<=t/\vs[t - i]? = some v
 | [],_,_,_,h=>by simp [oU,get] at h
 | x::vs,i,t,v,h=>by
  simp only [oU] at h
  rcases nO h with ⟨rfl,rfl⟩ | ⟨b,h⟩
  ·simp
  ·obtain ⟨h1,a⟩:=oV vs (i+1) t v h
   refine ⟨by omega,?_⟩
   have:t - i=(t - (i+1))+1:=by omega
   rw [this];simpa using a
theorem enter {f:FuncId} {fn:Func} {c:Code} {vs:List Value} {R:Ending->World->Prop} (g:P.funcs[f]? = some fn) (hb:fn.body=some c) (i:fn.ntmps=n) (hl:Nat.ble vs.length n=true)
  (k:∀Q:Exit->Act->World->Prop,(∀e a w,bodyPost P fn R e a w->Q e a w)->∀a,EnvR n (oU 0 vs) [] a->c.wp P Q a w):Calls P f vs.toArray w R:=by
 have hl':vs.length<=n:=by simpa using hl
 refine calls_of_wp g hb (k _ (fun _ _ _ h=>h) _ ⟨by simp [i];omega,fun t v j=>?_,rfl⟩)
 obtain ⟨_,b⟩:=oV vs 0 t v j
 simp only [Nat.sub_zero] at b
 have d:t < vs.length:=(List.getElem?_eq_some_iff.1 b).1
 simp only [List.getElem?_toArray,Array.getElem?_append,List.size_toArray,d,↓reduceIte]
 exact b
theorem ret0 {fn:Func} {R:Ending->World->Prop} (J:EnvR n E [] a) (hr:fn.results=#[]) (h:R (.returned (.tuple #[])) w):bodyPost P fn R .ret a w :=
 ⟨J.defs,.tuple #[],by simp [results,hr],h⟩
theorem ret1 {fn:Func} {R:Ending->World->Prop} {t:Nat} {v:Value} (J:EnvR n E [] a) (hr:fn.results=#[.tmp t]) (b:get E t=some v) (h:R (.returned v) w):bodyPost P fn R .ret a w :=
 ⟨J.defs,v,by simp [results,hr,Array.getD_eq_getD_getElem?,J.env t v b],h⟩
theorem ret2 {fn:Func} {R:Ending->World->Prop} {t u:Nat} {v x:Value} (J:EnvR n E [] a) (hr:fn.results=#[.tmp t,.tmp u]) (b:get E t=some v) (c:get E u=some x)
  (h:R (.returned (.tuple #[v,x])) w):bodyPost P fn R .ret a w :=
 ⟨J.defs,.tuple #[v,x],by simp [results,hr,Array.getD_eq_getD_getElem?,J.env t v b,J.env u x c],h⟩
variable {Q:Exit->Act->World->Prop}
theorem sq {x y:Code} (h:∀L:Act->World->Prop,(∀a w,y.wp P Q a w->L a w)->x.wp P (Exit.then L Q) a w):(Code.seq x y).wp P Q a w:=wp_seq_k h
theorem if_t {c:Operand} {x y:Code} (J:EnvR n E D a) (b:ev E c=some (.bool true)) (h:x.wp P Q a w):(Code.cond c x y).wp P Q a w:=wp_cond_true (J.ev b) h
theorem if_f {c:Operand} {x y:Code} (J:EnvR n E D a) (b:ev E c=some (.bool false)) (h:y.wp P Q a w):(Code.cond c x y).wp P Q a w:=wp_cond_false (J.ev b) h
theorem loop {c:Code} {σ:Type} (μ:σ->Nat) (I:σ->Act->World->Prop) (s0:σ) (d:I s0 a w)
  (hb:∀s a w,I s a w->∀L:Act->World->Prop,(∀s' a w,μ s' < μ s->I s' a w->L a w)->c.wp P (Exit.then L Q) a w):(Code.loop c).wp P Q a w:=by
 refine wp_loop_ghost (fun m a w=>∃s,μ s=m/\I s a w) (μ s0) ⟨s0,rfl,d⟩ ?_
 rintro m a w ⟨s,rfl,O⟩
 exact hb s a w O _ (fun s' a w b e=>⟨μ s',b,s',rfl,e⟩)
def Row (Φ:Fz) (v:Value) (k:Nat) (cs:List Value):Prop :=
 (v=.slice none 0 0/\cs=[])∨∃q m c,v=.slice (some q) m c/\cs.length=m * k/\m<=maxLen/\(cs≠[]->At Φ q cs)
theorem Row.mono {v:Value} {k:Nat} {cs:List Value} (h:Row Φ v k cs) (hl:Φ.Le Ψ):Row Ψ v k cs:=by
 rcases h with h | ⟨q,m,c,h1,a,b,d⟩
 ·exact .inl h
 ·exact .inr ⟨q,m,c,h1,a,b,fun h=>(d h).mono hl⟩
theorem Row.nil (k:Nat):Row Φ (.slice none 0 0) k []:=.inl ⟨rfl,rfl⟩
def Chunks {α:Type} (R:List Value->α->Prop) (k:Nat):List Value->List α->Prop
 | cs,[]=>cs=[]
 | cs,x::xs=>∃c rest,cs=c++rest/\c.length=k/\R c x/\Chunks R k rest xs
section
variable {α:Type} {R:List Value->α->Prop} {k:Nat}
theorem Chunks.length:∀{xs:List α} {cs:List Value},Chunks R k cs xs->cs.length=xs.length * k
 | [],cs,h=>by simp [Chunks] at h;simp [h]
 | x::xs,cs,⟨c,rest,h1,a,_,b⟩=>by
  subst h1
  rw [List.length_append,Chunks.length b,a,List.length_cons,Nat.succ_mul];omega
theorem Chunks.mono {R':List Value->α->Prop} (a:∀c x,R c x->R' c x):∀{xs:List α} {cs:List Value},Chunks R k cs xs->Chunks R' k cs xs
 | [],_,h=>h
 | _::_,_,⟨c,rest,h1,b,d,e⟩=>⟨c,rest,h1,b,a _ _ d,e.mono a⟩
theorem Chunks.snoc {c:List Value} {x:α} (a:c.length=k) (b:R c x):∀{xs:List α} {cs:List Value},Chunks R k cs xs->Chunks R k (cs++c) (xs++[x])
 | [],cs,h=>by
  simp only [Chunks] at h;subst h
  exact ⟨c,[],by simp,a,b,rfl⟩
 | y::ys,cs,⟨d,rest,h1,e,f,g⟩=>⟨d,rest++c,by rw [h1,List.append_assoc],e,f,g.snoc a b⟩
theorem Chunks.append:∀{xs ys:List α} {cs ds:List Value},Chunks R k cs xs->Chunks R k ds ys->Chunks R k (cs++ds) (xs++ys)
 | [],ys,cs,ds,h,h'=>by simp only [Chunks] at h;subst h;simpa using h'
 | x::xs,ys,cs,ds,⟨c,rest,h1,a,b,d⟩,h'=>⟨c,rest++ds,by rw [h1,List.append_assoc],a,b,d.append h'⟩
theorem Chunks.get:∀{xs:List α} {cs:List Value} {i:Nat} {x:α},Chunks R k cs xs->xs[i]? = some x->∃c,c.length=k/\R c x/\∀j v,c[j]? = some v->cs[i * k+j]? = some v
 | [],_,_,_,_,a=>by simp at a
 | y::ys,cs,0,x,⟨c,rest,h1,b,h,l⟩,a=>by
  simp only [List.getElem?_cons_zero,Option.some.injEq] at a
  subst a
  refine ⟨c,b,h,fun j v f=>?_⟩
  have g:j < c.length:=(List.getElem?_eq_some_iff.1 f).1
  rw [h1,Nat.zero_mul,Nat.zero_add,List.getElem?_append_left g];exact f
 | y::ys,cs,i+1,x,⟨c,rest,h1,b,h,l⟩,a=>by
  simp only [List.getElem?_cons_succ] at a
  obtain ⟨d,m,e2,e3⟩:=Chunks.get l a
  refine ⟨d,m,e2,fun j v f=>?_⟩
  have:=e3 j v f
  rw [h1,List.getElem?_append_right (by rw [b,Nat.succ_mul];omega)]
  have e:(i+1) * k+j - c.length=i * k+j:=by rw [b,Nat.succ_mul];omega
  rw [e];exact this
theorem Chunks.nil_iff {cs:List Value} {xs:List α} (h:Chunks R k cs xs) (a:0 < k):cs=[]↔xs=[]:=by
 cases xs with
 | nil=>simpa [Chunks] using h
 | cons x xs=>
  have:=h.length
  constructor
  ·rintro rfl;rw [List.length_cons,Nat.succ_mul] at this;simp at this;omega
  ·intro e;cases e
end
def SliceOf {α:Type} (R:Fz->List Value->α->Prop) (Φ:Fz) (k:Nat) (v:Value) (xs:List α):Prop:=∃cs,Row Φ v k cs/\Chunks (R Φ) k cs xs
section
variable {α:Type} {R:Fz->List Value->α->Prop} {k:Nat} {v:Value} {xs:List α}
theorem SliceOf.mono (b:∀Φ Ψ c x,Φ.Le Ψ->R Φ c x->R Ψ c x) (h:SliceOf R Φ k v xs) (hl:Φ.Le Ψ):SliceOf R Ψ k v xs :=
 let ⟨cs,h1,a⟩:=h;⟨cs,h1.mono hl,a.mono fun c x d=>b _ _ _ _ hl d⟩
theorem SliceOf.nil (k:Nat):SliceOf R Φ k (.slice none 0 0) []:=⟨[],Row.nil k,rfl⟩
theorem SliceOf.form (h:SliceOf R Φ k v xs) (b:0 < k):∃p c,v=.slice p xs.length c/\xs.length<=9223372036854775807/\(xs≠[]->∃q,p=some q):=by
 obtain ⟨cs,h1,a⟩:=h
 rcases h1 with ⟨rfl,rfl⟩ | ⟨q,m,c,rfl,hl,N,d⟩
 ·have:=(a.nil_iff b).1 rfl
  subst this
  exact ⟨none,0,rfl,by simp,fun h=>absurd rfl h⟩
 ·have:=a.length
  have:m=xs.length:=Nat.eq_of_mul_eq_mul_right b (by rw [<- hl,this])
  subst this
  exact ⟨some q,c,rfl,by simpa [maxLen] using N,fun _=>⟨q,rfl⟩⟩
theorem At.sub {p:Addr} {cs ds:List Value} {o:Nat} (h:At Φ p cs) (c:∀j v,ds[j]? = some v->cs[o+j]? = some v):At Φ (p.add o) ds:=by
 obtain ⟨arr,T,fr,h1,a⟩:=h.ex
 have O:=h.spot
 cases p with
 | mk b f s=>
  simp only at O;subst O
  have e:(⟨b,f,none⟩:Addr).add o=⟨b,f+o,none⟩:=by
   unfold Addr.add;split
   ·subst_vars;rfl
   ·rfl
  rw [e]
  exact ⟨rfl,arr,T,fr,h1,fun j v d=>by simpa [Nat.add_assoc] using a (o+j) v (c j v d)⟩
theorem SliceOf.elem {q:Addr} {m c i:Nat} {x:α} (h:SliceOf R Φ k (.slice (some q) m c) xs) (f:xs[i]? = some x) (l:0 < k:=by decide):∃cs,cs.length=k/\At Φ (q.add (i * k)) cs/\R Φ cs x:=by
 obtain ⟨cs,h1,g⟩:=h
 rcases h1 with ⟨h,_⟩ | ⟨q',m',c',J,hl,N,a⟩
 ·cases h
 ·simp only [Value.slice.injEq,Option.some.injEq] at J
  obtain ⟨rfl,rfl,rfl⟩:=J
  obtain ⟨d,j,e2,e3⟩:=g.get f
  have b:cs≠[]:=fun e=>by rw [(g.nil_iff l).1 e] at f;simp at f
  exact ⟨d,j,(a b).sub e3,e2⟩
end
theorem Mem.freezeRow {v:Value} {T:TypeId} {k i:Nat} {cs:List Value} (N:Mem Φ K w) (e:qU K i=some (.gs v T k cs)):∃Ψ,Φ.Le Ψ/\Mem Ψ (tJ K i) w/\Row Ψ v k cs:=by
 have h:=N.pull e
 obtain ⟨m,hl,f⟩:=N.own _ (qV e)
 rcases f with ⟨rfl,rfl⟩ | ⟨b,cap,cur,rfl,_,n,g,d,l,a⟩
 ·exact ⟨Φ,Fz.Le.refl Φ,h.tail,.inl ⟨rfl,List.eq_nil_of_length_eq_zero (by simpa using hl)⟩⟩
 ·refine ⟨_,Fz.le_add (h.no rfl) _,h.freezeHead (b:=b) rfl n,.inr ⟨_,m,cap,rfl,hl,Nat.le_trans g d,fun _=>⟨rfl,cur,T,(0,0),by simp [Fz.add],fun j v c=>?_⟩⟩⟩
  rw [<- a,List.getElem?_take] at c
  split at c
  ·simpa using c
  ·cases c
theorem Mem.freezeBlk {b i:Nat} {cs:List Value} {T:TypeId} (N:Mem Φ K w) (a:qU K i=some (.blk b (ob cs T))):∃Ψ,Φ.Le Ψ/\Mem Ψ (tJ K i) w/\At Ψ ⟨b,0,none⟩ cs:=by
 have h:=N.pull a
 have d:w.heap[b]? = some (ob cs T):=N.own _ (qV a)
 exact ⟨_,Fz.le_add (h.no rfl) _,h.freezeHead (b:=b) rfl d,rfl,cs.toArray,T,(0,0),by simp [Fz.add,ob],fun j v c=>by simpa using c⟩
theorem Sees.gsForm {v:Value} {T:TypeId} {k i:Nat} {cs:List Value} (N:Sees Φ K w) (f:qU K i=some (.gs v T k cs)):∃p m c,v=.slice p m c/\cs.length=m * k/\m<=maxLen:=by
 obtain ⟨m,hl,d⟩:=N.own _ (qV f)
 rcases d with ⟨rfl,rfl⟩ | ⟨b,cap,cur,rfl,_,_,e,a,_⟩
 ·exact ⟨none,0,0,rfl,hl,Nat.zero_le _⟩
 ·exact ⟨_,m,cap,rfl,hl,Nat.le_trans e a⟩
theorem Sees.gsCells {v:Value} {T:TypeId} {k i:Nat} {cs:List Value} (N:Sees Φ K w) (a:qU K i=some (.gs v T k cs)):v.cells.toList=[v]:=by
 obtain ⟨p,m,c,rfl,_⟩:=N.gsForm a;rfl
theorem Sees.gsOne {v:Value} {T:TypeId} {k i:Nat} {cs:List Value} (N:Sees Φ K w) (a:qU K i=some (.gs v T k cs)):[v].all Value.oneCell'=true:=by
 obtain ⟨p,m,c,rfl,_⟩:=N.gsForm a;rfl
variable {Kn:Value->World->Prop} {Qp:List PanicEntry->World->Prop} {dst:Option Tmp} {ty:TypeId} {pos:String} {aft:Array Edge} {g:Option (Nat×Bool)}
structure RowT (P:Program) (t e:TypeId) (size bytes:Nat):Prop where
 under:P.underlying t=some (.slice e)
 info:∃i z,P.info? e=some i/\i.zero=some z/\i.size=size/\i.bytes=bytes/\z.cells.size=size
 pos:0 < size
 bpos:0 < bytes
def y9g (w:World) (v:Value) (k:Nat) (cs:List Value):Prop :=
 (v=.slice none 0 0/\cs=[])∨∃q m c,v=.slice (some q) m c/\cs.length=m * k/\∀j u,cs[j]? = some u->w.cell? (q.add j)=some u
theorem Row.rowIn {v:Value} {k:Nat} {cs:List Value} (h:Row Φ v k cs) (N:Sees Φ K w):y9g w v k cs:=by
 rcases h with h | ⟨q,m,c,h1,b,_,d⟩
 ·exact .inl h
 ·exact .inr ⟨q,m,c,h1,b,fun j u a=>N.at (d fun e=>by rw [e] at a;simp at a) j u a⟩
theorem Sees.rowIn {v:Value} {T:TypeId} {k i:Nat} {cs:List Value} (N:Sees Φ K w) (c:qU K i=some (.gs v T k cs)):y9g w v k cs:=by
 obtain ⟨m,a⟩:=N.own _ (qV c)
 rcases a.2 with ⟨rfl,rfl⟩ | ⟨b,cap,cur,rfl,_⟩
 ·exact .inl ⟨rfl,List.eq_nil_of_length_eq_zero (by simpa using a.1)⟩
 ·exact .inr ⟨_,m,cap,rfl,a.1,a.cells (g:=b) rfl⟩
theorem kK (i:Nat) {s x:Operand} {t e:TypeId} {size bytes:Nat} {v vx:Value} {xs news:List Value} (A:RowT P t e size bytes) (J:EnvR n E D a) (N:Mem Φ K w)
  (O:ev E s=some v) (S:qU K i=some (.gs v e size xs)) (hx:ev E x=some vx) (hr:y9g w vx size news) (h1:news.all Value.oneCell'=true)
  (hb:∀n m,xs.length=n * size->news.length=m * size->(n+m) * bytes<=140737488355328)
  (k:∀v' w',Mem Φ (pU K i (.gs v' e size (xs++news))) w'->Kn v' w') :
  Oper.eff P ⟨dst,.call { callee:=.builtin .append,args:=#[s,x],argTypes:=#[t,t] },ty,pos,aft,g⟩ a w Kn Qp:=by
 obtain ⟨inf,z,L,U,l,G,R⟩:=A.info
 obtain ⟨nn,f⟩:=N.own _ (qV S)
 have V:=A.pos
 have Q:xs.length=nn * size:=f.1
 have o:∀v' w',(Builtin.append_ #[t,t] ty #[v,vx]).run P w=.ok v' w'->Kn v' w' ->
   Oper.eff P ⟨dst,.call { callee:=.builtin .append,args:=#[s,x],argTypes:=#[t,t] },ty,pos,aft,g⟩ a w Kn Qp:=by
  intro v' w' d X
  unfold Oper.eff
  have:(execOp a.eval ⟨dst,.call { callee:=.builtin .append,args:=#[s,x],argTypes:=#[t,t] },ty,pos,aft,g⟩).run P w=.ok (.value v') w':=by
   simp only [execOp,resolve,invoke,builtin,Sem.run_bind,Sem.run_pure,Result.andThen_ok,List.map_toArray,List.map_cons,List.map_nil,J.ev O,J.ev hx,d]
  rw [this]
  exact X
 rcases hr with ⟨rfl,rfl⟩ | ⟨q,m',c,rfl,hl,B⟩
 ·
  have r:∃p nn cap,v=.slice p nn cap/\nn<=cap:=by
   rcases f.2 with ⟨rfl,rfl⟩ | ⟨b,cap,cur,rfl,_,_,H,_⟩
   ·exact ⟨none,0,0,rfl,Nat.le_refl _⟩
   ·exact ⟨_,nn,cap,rfl,H⟩
  obtain ⟨p,nn',cap,rfl,H⟩:=r
  refine o (.slice p nn' cap) w ?_ (k _ _ ?_)
  ·cases p with
   | none=>simp [Builtin.append_,run_underlying A.under,sizeOf,typeInfo,L,Builtin.lenOf,Builtin.firstCells,H]
   | some q=>simp [Builtin.append_,run_underlying A.under,sizeOf,typeInfo,L,Builtin.lenOf,Builtin.firstCells,H,storeCells]
  ·rw [List.append_nil]
   exact N.upd S rfl rfl (fun _ _ _=>rfl) ⟨nn,f⟩ (.inl rfl)
 ·have C:(nn+m') * bytes<=140737488355328:=hb nn m' Q hl
  have F:nn+m'<=Go.maxLen:=by
   have:=Nat.le_trans (Nat.le_mul_of_pos_right (nn+m') A.bpos) C
   simp only [Go.maxLen];omega
  have hsmall:nn+m'<=9223372036854775807:=by simp only [Go.maxLen] at F;omega
  rcases f.2 with ⟨rfl,rfl⟩ | ⟨b,cap,cur,rfl,_,Z,H,Y,T,_⟩
  ·obtain ⟨v',w',d,ho',h,_⟩:=run_append_own (P:=P) w w.heap.size t ty e inf z size bytes A.under L U l G R V (.slice none 0 0) 0 xs ⟨f.1,.inl ⟨rfl,rfl⟩⟩ q m' c news hl B (fun u M=>List.all_eq_true.1 h1 u M) F C (Nat.le_refl _)
   refine o v' w' d (k _ _ (N.upd S h.os h.output (fun b hb I=>h.block b hb I) ⟨0+m',?_⟩ (.inr fun b hb=>(ho'.lt b hb).1)))
   exact ⟨ho'.1,ho'.2.imp id fun ⟨g,cap,cur,h1,_,W⟩=>⟨g,cap,cur,h1,Nat.zero_le _,W⟩⟩
  ·obtain ⟨v',w',d,ho',h,_⟩:=run_append_own (P:=P) w 0 t ty e inf z size bytes A.under L U l G R V _ nn xs f q m' c news hl B (fun u M=>List.all_eq_true.1 h1 u M) F C (Nat.zero_le _)
   refine o v' w' d (k _ _ (N.upd S h.os h.output (fun b hb I=>h.block b hb I) ⟨nn+m',ho'⟩ ?_))
   by_cases y:nn+m'<=cap
   ·have r:nn * inf.size+news.length<=cur.size:=by rw [hl,T,l,<- Nat.add_mul];exact Nat.mul_le_mul_right _ y
    have hr:=run_append_room (P:=P) w t ty e inf A.under L b nn cap cur Z q m' c news (by rw [l];exact hl) B (fun u M=>List.all_eq_true.1 h1 u M) y r
    rw [hr] at d
    cases d
    exact .inl rfl
   ·have holds:∀j u,xs[j]? = some u->w.cell? ((⟨b,0,none⟩:Addr).add j)=some u:=f.cells (g:=b) rfl
    have hr:=run_append_grow (P:=P) w t ty e inf z A.under L U ⟨b,0,none⟩ nn cap xs (by rw [l];exact Q) holds q m' c news (by rw [l];exact hl) B (by omega) (by omega) (by rw [G];exact growslice_fits (by omega) C)
    rw [hr] at d
    cases d
    exact .inr fun c H=>by simp [Res.foot,Value.ownBlock] at H;omega
theorem gZ (i:Nat) {s x:Operand} {t e:TypeId} {size bytes:Nat} {v vx:Value} {xs news:List Value} (b:RowT P t e size bytes) (J:EnvR n E D a) (N:Mem Φ K w)
  (O:ev E s=some v) (c:qU K i=some (.gs v e size xs)) (f:ev E x=some vx) (hr:y9g w vx size news) (h1:news.all Value.oneCell'=true)
  (hb:(xs.length+news.length) * bytes<=140737488355328)
  (k:∀v' w',Mem Φ (pU K i (.gs v' e size (xs++news))) w'->Kn v' w') :
  Oper.eff P ⟨dst,.call { callee:=.builtin .append,args:=#[s,x],argTypes:=#[t,t] },ty,pos,aft,g⟩ a w Kn Qp :=
 kK i b J N O c f hr h1 (fun n m d hl=>by
  refine Nat.le_trans (Nat.mul_le_mul_right _ ?_) hb
  rw [d,hl,<- Nat.add_mul]
  exact Nat.le_mul_of_pos_right _ b.pos) k
end Go.Sw

namespace Go.Sw
variable {P:Program} {n:Nat} {E:List (Nat×Value)} {D:List Deferred} {a:Act} {Φ Ψ:Fz} {K K':List Res} {w:World}
section
variable {ops:Array Oper} {B:World->Prop} {kd:List Nat} {Qp:List PanicEntry->World->Prop} {Q:Act->World->Prop} {d:Nat} {v:Value} {op:Op} {ty:TypeId} {pos:String} {aft:Array Edge} {g:Option (Nat×Bool)} {i:Nat} {p:Plan} {dst:Option Tmp}
theorem dE {id:Nat} {l:List Oper} {Q:Exit->Act->World->Prop} (kd:List Nat) (p:Plan) (K':List Res) (J:EnvR n E D a) (N:Mem Φ K w) (f:P.follows .mixedOrders=true) (b:z6z l.toArray kd p=true) (d:∀r∈K',r∈K)
  (h:∀w,Mem Φ K w->yE P .any l.toArray (Sees Φ K') kd (fun c w=>∀a,a.defers=D->Q (.panic c) a w) (Q .normal) p a w):(Code.region id l.toArray true).wp P Q a w:=by
 have hm':=N.drew
 exact y8n (D:=D) kd p (Sees Φ K') (fun c w=>∀a,a.defers=D->Q (.panic c) a w) f b (fun c a w e h=>h a e) J.defs ⟨hm'.fz,fun r hr=>hm'.own r (d r hr)⟩ (h _ hm')
theorem aM {o:Oper} (a:o.guard=none) (f:Nat->Option Bool):Region.wanted o f=true:=by simp [Region.wanted,a]
theorem d_q (J:EnvR n E D a) (e:ops[i]? = some ⟨some d,op,ty,pos,aft,none⟩) (b:qM kd i=2) (f:∀w,B w->Ok P a op ty w v) (c:Nat.blt d n=true)
  (k:∀a,EnvR n ((d,v)::E) D a->yE P .any ops B kd Qp Q p a w):yE P .any ops B kd Qp Q (.q i p) a w:=by
 unfold yE vV
 simp only [e]
 rw [if_pos (aM rfl _),if_neg (by rw [b];decide)]
 exact ⟨v,fun w g=>f w (g b) _ _ _ _,k _ (J.put c)⟩
theorem y3u (J:EnvR n E D a) (c:ops[i]? = some ⟨some d,op,ty,pos,aft,none⟩) (e:qM kd i=1) (f:∀w,Ok P a op ty w v) (b:Nat.blt d n=true)
  (k:∀a,EnvR n ((d,v)::E) D a->yE P .any ops B kd Qp Q p a w):yE P .any ops B kd Qp Q (.q i p) a w:=by
 unfold yE vV
 simp only [c]
 rw [if_pos (aM rfl _),if_neg (by rw [e];decide)]
 exact ⟨v,fun w _=>f w _ _ _ _,k _ (J.put b)⟩
theorem d_qg (J:EnvR n E D a) {j t:Nat} {b:Bool} (f:ops[i]? = some ⟨some d,op,ty,pos,aft,some (j,b)⟩) (g:ops[j]?.bind (·.dst)=some t) (l:get E t=some (.bool b)) (c:qM kd i=2)
  (h:∀w,B w->Ok P a op ty w v) (e:Nat.blt d n=true)
  (k:∀a,EnvR n ((d,v)::E) D a->yE P .any ops B kd Qp Q p a w):yE P .any ops B kd Qp Q (.q i p) a w:=by
 unfold yE vV
 simp only [f]
 rw [if_pos (aA J rfl g l),if_neg (by rw [c];decide)]
 exact ⟨v,fun w m=>h w (m c) _ _ _ _,k _ (J.put e)⟩
theorem d_qg1 (J:EnvR n E D a) {j t:Nat} {b:Bool} (e:ops[i]? = some ⟨some d,op,ty,pos,aft,some (j,b)⟩) (f:ops[j]?.bind (·.dst)=some t) (l:get E t=some (.bool b)) (g:qM kd i=1)
  (h:∀w,Ok P a op ty w v) (c:Nat.blt d n=true)
  (k:∀a,EnvR n ((d,v)::E) D a->yE P .any ops B kd Qp Q p a w):yE P .any ops B kd Qp Q (.q i p) a w:=by
 unfold yE vV
 simp only [e]
 rw [if_pos (aA J rfl f l),if_neg (by rw [g];decide)]
 exact ⟨v,fun w _=>h w _ _ _ _,k _ (J.put c)⟩
theorem q3l (h:Q a w):yE P .any ops B kd Qp Q .done a w:=h
theorem d_no (J:EnvR n E D a) {j t:Nat} {b:Bool} (e:ops[i]? = some ⟨some d,op,ty,pos,aft,some (j,b)⟩) (f:ops[j]?.bind (·.dst)=some t) {u:Value} (g:get E t=some u) (hb:q4p u b=true)
  (c:Nat.blt d n=true) (k:∀a,EnvR n ((d,undef)::E) D a->yE P .any ops B kd Qp Q p a w):yE P .any ops B kd Qp Q (.q i p) a w:=by
 unfold yE vV
 simp only [e]
 rw [if_neg (by rw [z3p J rfl f g hb];simp)]
 exact k _ (J.put c)
theorem d_no_e (J:EnvR n E D a) {j t:Nat} {b:Bool} (f:ops[i]? = some ⟨some d,op,ty,pos,aft,some (j,b)⟩) (g:ops[j]?.bind (·.dst)=some t) {u:Value} (h:get E t=some u) (hb:q4p u b=true)
  (c:Nat.blt d n=true) (k:∀a,EnvR n ((d,undef)::E) D a->yE P .any ops B kd Qp Q p a w):yE P .any ops B kd Qp Q (.e i p) a w:=by
 unfold yE vV
 simp only [f]
 rw [if_neg (by rw [z3p J rfl g h hb];simp)]
 exact k _ (J.put c)
theorem mF (J:EnvR n E D a) {L:Act->World->Prop} (e:ops[i]? = some ⟨some d,op,ty,pos,aft,none⟩) (f:qM kd i=0) (c:Nat.blt d n=true)
  (h:Oper.eff P ⟨some d,op,ty,pos,aft,none⟩ a w (fun v w'=>(oA .any kd ⟨some d,op,ty,pos,aft,none⟩=true->B w')/\∀a,EnvR n ((d,v)::E) D a->L a w') Qp):vV P .any ops B kd Qp i L a w:=by
 unfold vV
 simp only [e]
 rw [if_pos (aM rfl _),if_pos f]
 exact xH (Oper.eff.toR h) (fun v w' b=>⟨b.1,b.2 _ (J.put c)⟩) (fun _ _ h=>h)
theorem drOp_e0 (J:EnvR n E D a) {L:Act->World->Prop} (c:ops[i]? = some ⟨none,op,ty,pos,aft,none⟩) (d:qM kd i=0)
  (h:Oper.eff P ⟨none,op,ty,pos,aft,none⟩ a w (fun _ w'=>(oA .any kd ⟨none,op,ty,pos,aft,none⟩=true->B w')/\∀a,EnvR n E D a->L a w') Qp):vV P .any ops B kd Qp i L a w:=by
 unfold vV
 simp only [c]
 rw [if_pos (aM rfl _),if_pos d]
 exact xH (Oper.eff.toR h) (fun v w' b=>⟨b.1,b.2 _ J.put_none⟩) (fun _ _ h=>h)
theorem drOp_eg (J:EnvR n E D a) {L:Act->World->Prop} {j t:Nat} {b:Bool} (f:ops[i]? = some ⟨some d,op,ty,pos,aft,some (j,b)⟩) (g:ops[j]?.bind (·.dst)=some t) (c:get E t=some (.bool b)) (k:qM kd i=0) (e:Nat.blt d n=true)
  (h:Oper.eff P ⟨some d,op,ty,pos,aft,some (j,b)⟩ a w (fun v w'=>(oA .any kd ⟨some d,op,ty,pos,aft,some (j,b)⟩=true->B w')/\∀a,EnvR n ((d,v)::E) D a->L a w') Qp):vV P .any ops B kd Qp i L a w:=by
 unfold vV
 simp only [f]
 rw [if_pos (aA J rfl g c),if_pos k]
 exact xH (Oper.eff.toR h) (fun v w' c=>⟨c.1,c.2 _ (J.put e)⟩) (fun _ _ h=>h)
theorem d_e (J:EnvR n E D a) (c:ops[i]? = some ⟨some d,op,ty,pos,aft,none⟩) (f:qM kd i=0) (b:Nat.blt d n=true)
  (h:Oper.eff P ⟨some d,op,ty,pos,aft,none⟩ a w (fun v w'=>(oA .any kd ⟨some d,op,ty,pos,aft,none⟩=true->B w')/\∀a,EnvR n ((d,v)::E) D a->yE P .any ops B kd Qp Q p a w') Qp):yE P .any ops B kd Qp Q (.e i p) a w :=
 mF J c f b h
theorem wA (J:EnvR n E D a) (b:ops[i]? = some ⟨none,op,ty,pos,aft,none⟩) (c:qM kd i=0)
  (h:Oper.eff P ⟨none,op,ty,pos,aft,none⟩ a w (fun _ w'=>(oA .any kd ⟨none,op,ty,pos,aft,none⟩=true->B w')/\∀a,EnvR n E D a->yE P .any ops B kd Qp Q p a w') Qp):yE P .any ops B kd Qp Q (.e i p) a w :=
 drOp_e0 J b c h
theorem d_eg (J:EnvR n E D a) {j t:Nat} {b:Bool} (f:ops[i]? = some ⟨some d,op,ty,pos,aft,some (j,b)⟩) (g:ops[j]?.bind (·.dst)=some t) (l:get E t=some (.bool b)) (k:qM kd i=0) (c:Nat.blt d n=true)
  (h:Oper.eff P ⟨some d,op,ty,pos,aft,some (j,b)⟩ a w (fun v w'=>(oA .any kd ⟨some d,op,ty,pos,aft,some (j,b)⟩=true->B w')/\∀a,EnvR n ((d,v)::E) D a->yE P .any ops B kd Qp Q p a w') Qp):yE P .any ops B kd Qp Q (.e i p) a w :=
 drOp_eg J f g l k c h
theorem gW {i j:Nat} {p r:Plan} (h1:yE P .any ops B kd Qp Q (.e i p) a w) (b:yE P .any ops B kd Qp Q (.e j r) a w):yE P .any ops B kd Qp Q (.e2 i j p r) a w:=⟨h1,b⟩
theorem Mem.seesIn (N:Mem Ψ K w) (hl:Φ.Le Ψ) (a:∀r∈K',r∈K):Sees Φ K' w:=⟨fun b o hb=>N.fz b o (hl.obj b o hb),fun r hr=>N.own r (a r hr)⟩
end
section
variable {Kn:Value->World->Prop} {Qp:List PanicEntry->World->Prop} {dst:Option Tmp} {ty:TypeId} {pos:String} {aft:Array Edge} {g:Option (Nat×Bool)}
variable {f:FuncId} {xs:Array Operand} {ts:Array TypeId} {vs:List Value}
theorem tE {X:Value} {Φ':Fz} {K':List Res} (J:EnvR n E D a) (i:evs E xs.toList=some vs) (d:∀args w,(callFunc f args).run P w=.ok (.enter f args) w)
  (b:Calls P f vs.toArray w (fun e w'=>e=.returned X/\Mem Φ' K' w')) (k:∀w',Mem Φ' K' w'->Kn X w') :
  Oper.eff P ⟨dst,.call { callee:=.value (.func f),args:=xs,argTypes:=ts },ty,pos,aft,g⟩ a w Kn Qp :=
 aR J i d b (fun v w' h=>by cases h.1;exact k _ h.2) (fun c w' h=>by cases h.1) (fun w' h=>by cases h.1)
theorem jF {Φ':Fz} {K':Value->List Res} (J:EnvR n E D a) (j:evs E xs.toList=some vs) (i:∀args w,(callFunc f args).run P w=.ok (.enter f args) w)
  (d:Calls P f vs.toArray w (fun e w'=>∃v,e=.returned v/\Mem Φ' (K' v) w')) (k:∀v w',Mem Φ' (K' v) w'->Kn v w') :
  Oper.eff P ⟨dst,.call { callee:=.value (.func f),args:=xs,argTypes:=ts },ty,pos,aft,g⟩ a w Kn Qp :=
 aR J j i d (fun v w' h=>by obtain ⟨u,h1,b⟩:=h;cases h1;exact k _ _ b) (fun c w' h=>by obtain ⟨u,h1,_⟩:=h;cases h1) (fun w' h=>by obtain ⟨u,h1,_⟩:=h;cases h1)
theorem j8x {b:Bool} {Φ':Fz} {K':List Res} (J:EnvR n E D a) (h:evs E xs.toList=some vs) (d:∀args w,(callFunc f args).run P w=.ok (.enter f args) w)
  (c:Calls P f vs.toArray w (fun e w'=>e=.returned (.bool b)/\Mem Φ' K' w')) (kt:b=true->∀w',Mem Φ' K' w'->Kn (.bool true) w') (kf:b=false->∀w',Mem Φ' K' w'->Kn (.bool false) w') :
  Oper.eff P ⟨dst,.call { callee:=.value (.func f),args:=xs,argTypes:=ts },ty,pos,aft,g⟩ a w Kn Qp:=by
 refine tE J h d c fun w' N=>?_
 cases b with
 | true=>exact kt rfl _ N
 | false=>exact kf rfl _ N
end
section
variable {Kn:Value->World->Prop} {Qp:List PanicEntry->World->Prop} {dst:Option Tmp} {ty:TypeId} {pos:String} {aft:Array Edge} {g:Option (Nat×Bool)}
variable {f:FuncId} {xs:Array Operand} {ts:Array TypeId} {vs fs cs:List Value} {y:Operand}
theorem y4d {X:Value} {Φ':Fz} {K':List Res} (J:EnvR n E D a) (j:ev E y=some (.func (.func f) fs.toArray cs.toArray)) (i:evs E xs.toList=some vs) (d:∀args w,(callFunc f args).run P w=.ok (.enter f args) w)
  (b:Calls P f (fs++vs++cs).toArray w (fun e w'=>e=.returned X/\Mem Φ' K' w')) (k:∀w',Mem Φ' K' w'->Kn X w') :
  Oper.eff P ⟨dst,.call { callee:=.value y,args:=xs,argTypes:=ts },ty,pos,aft,g⟩ a w Kn Qp :=
 q0b J j i d b (fun v w' h=>by cases h.1;exact k _ h.2) (fun c w' h=>by cases h.1) (fun w' h=>by cases h.1)
theorem j1u {b:Bool} {Φ':Fz} {K':List Res} (J:EnvR n E D a) (i:ev E y=some (.func (.func f) fs.toArray cs.toArray)) (h:evs E xs.toList=some vs) (d:∀args w,(callFunc f args).run P w=.ok (.enter f args) w)
  (c:Calls P f (fs++vs++cs).toArray w (fun e w'=>e=.returned (.bool b)/\Mem Φ' K' w')) (kt:b=true->∀w',Mem Φ' K' w'->Kn (.bool true) w') (kf:b=false->∀w',Mem Φ' K' w'->Kn (.bool false) w') :
  Oper.eff P ⟨dst,.call { callee:=.value y,args:=xs,argTypes:=ts },ty,pos,aft,g⟩ a w Kn Qp:=by
 refine y4d J i h d c fun w' N=>?_
 cases b with
 | true=>exact kt rfl _ N
 | false=>exact kf rfl _ N
end
theorem jS {Q:Exit->Act->World->Prop} {c:Code} (I:Nat->Act->World->Prop) (m0:Nat) (d:I m0 a w)
  (hb:∀m a w,I m a w->∀L:Act->World->Prop,(∀m' a w,m' < m->I m' a w->L a w)->c.wp P (Exit.then L Q) a w):(Code.loop c).wp P Q a w:=by
 refine wp_loop_ghost I m0 d fun m a w e=>hb m a w e _ fun m' a w b h=>⟨m',b,h⟩
end Go.Sw

namespace Go.Sw
abbrev Bs:=ByteArray
def I64 (i:Int):Prop:=-9223372036854775808<=i/\i<=9223372036854775807
theorem I64.wrap {i:Int} (h:I64 i):IntKind.i64.wrap i=i:=jI h
inductive Val where
 | mk (con:Bs) (num:Int) (args:List Val)
namespace Val
def con:Val->Bs | .mk c _ _=>c
def num:Val->Int | .mk _ n _=>n
def args:Val->List Val | .mk _ _ a=>a
end Val
mutual
inductive Ex where
 | mk (kind num:Int) (name:Bs) (args:List Ex) (arms:List Arm)
inductive Arm where
 | mk (con:Bs) (vars:List Bs) (body:Ex)
end
namespace Ex
def kind:Ex->Int | .mk k _ _ _ _=>k
def num:Ex->Int | .mk _ n _ _ _=>n
def name:Ex->Bs | .mk _ _ s _ _=>s
def args:Ex->List Ex | .mk _ _ _ a _=>a
def arms:Ex->List Arm | .mk _ _ _ _ a=>a
end Ex
namespace Arm
def con:Arm->Bs | .mk c _ _=>c
def vars:Arm->List Bs | .mk _ v _=>v
def body:Arm->Ex | .mk _ _ b=>b
end Arm
structure Param where
 name:Bs
 type:Bs
structure Con where
 name:Bs
 fields:List Bs
structure Data where
 name:Bs
 cons:List Con
structure Fun where
 name:Bs
 params:List Param
 result:Bs
 body:Ex
structure Core where
 datas:List Data
 inputs:List Param
 funs:List Fun
 outputs:List Bs
structure Named where
 name:Bs
 value:Val
def RStr (_:Fz) (cs:List Value) (s:Bs):Prop:=cs=[.string s]
theorem RStr.mono (Φ Ψ:Fz) (c:List Value) (x:Bs) (_:Φ.Le Ψ) (h:RStr Φ c x):RStr Ψ c x:=h
mutual
def RVal' (Φ:Fz):Val->List Value->Prop
 | .mk con num args,cs=>∃s d,cs=[.string con,.int .i64 num,s]/\I64 num/\Row Φ s 3 d/\RVals' Φ args d
def RVals' (Φ:Fz):List Val->List Value->Prop
 | [],cs=>cs=[]
 | x::xs,cs=>∃c rest,cs=c++rest/\c.length=3/\RVal' Φ x c/\RVals' Φ xs rest
end
def RVal (Φ:Fz) (cs:List Value) (x:Val):Prop:=RVal' Φ x cs
theorem RVals'.iff {Φ:Fz}:∀{xs:List Val} {cs:List Value},RVals' Φ xs cs↔Chunks (RVal Φ) 3 cs xs
 | [],cs=>by simp only [RVals',Chunks]
 | x::xs,cs=>by simp only [RVals',Chunks,RVals'.iff (xs:=xs),RVal]
theorem RVal.iff {Φ:Fz} {cs:List Value} {x:Val}:RVal Φ cs x↔∃s,cs=[.string x.con,.int .i64 x.num,s]/\I64 x.num/\SliceOf RVal Φ 3 s x.args:=by
 cases x with
 | mk con num args=>
  simp only [RVal,RVal',RVals'.iff,Val.con,Val.num,Val.args,SliceOf]
  constructor
  ·rintro ⟨s,d,h1,a,b,c⟩;exact ⟨s,h1,a,d,b,c⟩
  ·rintro ⟨s,h1,a,d,b,c⟩;exact ⟨s,d,h1,a,b,c⟩
mutual
theorem RVal'.mono {Φ Ψ:Fz} (hl:Φ.Le Ψ):∀{x:Val} {cs:List Value},RVal' Φ x cs->RVal' Ψ x cs
 | .mk _ _ _,_,⟨s,d,h1,a,b,e⟩=>⟨s,d,h1,a,b.mono hl,RVals'.mono hl e⟩
theorem RVals'.mono {Φ Ψ:Fz} (hl:Φ.Le Ψ):∀{xs:List Val} {cs:List Value},RVals' Φ xs cs->RVals' Ψ xs cs
 | [],_,h=>h
 | _::_,_,⟨c,rest,h1,a,b,e⟩=>⟨c,rest,h1,a,RVal'.mono hl b,RVals'.mono hl e⟩
end
theorem RVal.mono (Φ Ψ:Fz) (c:List Value) (x:Val) (hl:Φ.Le Ψ) (h:RVal Φ c x):RVal Ψ c x:=RVal'.mono hl h
mutual
def REx' (Φ:Fz):Ex->List Value->Prop
 | .mk kind num name args arms,cs=>∃s t d f,cs=[.int .i64 kind,.int .i64 num,.string name,s,t]/\I64 num/\Row Φ s 5 d/\REs' Φ args d/\Row Φ t 7 f/\RArms' Φ arms f
def REs' (Φ:Fz):List Ex->List Value->Prop
 | [],cs=>cs=[]
 | x::xs,cs=>∃c rest,cs=c++rest/\c.length=5/\REx' Φ x c/\REs' Φ xs rest
def RArm' (Φ:Fz):Arm->List Value->Prop
 | .mk con vars body,cs=>∃s b,cs=.string con::s::b/\b.length=5/\SliceOf RStr Φ 1 s vars/\REx' Φ body b
def RArms' (Φ:Fz):List Arm->List Value->Prop
 | [],cs=>cs=[]
 | x::xs,cs=>∃c rest,cs=c++rest/\c.length=7/\RArm' Φ x c/\RArms' Φ xs rest
end
def REx (Φ:Fz) (cs:List Value) (x:Ex):Prop:=REx' Φ x cs
def RArm (Φ:Fz) (cs:List Value) (x:Arm):Prop:=RArm' Φ x cs
theorem REs'.iff {Φ:Fz}:∀{xs:List Ex} {cs:List Value},REs' Φ xs cs↔Chunks (REx Φ) 5 cs xs
 | [],cs=>by simp only [REs',Chunks]
 | x::xs,cs=>by simp only [REs',Chunks,REs'.iff (xs:=xs),REx]
theorem RArms'.iff {Φ:Fz}:∀{xs:List Arm} {cs:List Value},RArms' Φ xs cs↔Chunks (RArm Φ) 7 cs xs
 | [],cs=>by simp only [RArms',Chunks]
 | x::xs,cs=>by simp only [RArms',Chunks,RArms'.iff (xs:=xs),RArm]
theorem REx.iff {Φ:Fz} {cs:List Value} {x:Ex}:REx Φ cs x↔∃s t,cs=[.int .i64 x.kind,.int .i64 x.num,.string x.name,s,t]/\I64 x.num/\SliceOf REx Φ 5 s x.args/\SliceOf RArm Φ 7 t x.arms:=by
 cases x with
 | mk kind num name args arms=>
  simp only [REx,REx',REs'.iff,RArms'.iff,Ex.kind,Ex.num,Ex.name,Ex.args,Ex.arms,SliceOf]
  constructor
  ·rintro ⟨s,t,d,f,h1,a,b,c,e,g⟩;exact ⟨s,t,h1,a,⟨d,b,c⟩,f,e,g⟩
  ·rintro ⟨s,t,h1,a,⟨d,b,c⟩,f,e,g⟩;exact ⟨s,t,d,f,h1,a,b,c,e,g⟩
theorem RArm.iff {Φ:Fz} {cs:List Value} {x:Arm}:RArm Φ cs x↔∃s b,cs=.string x.con::s::b/\SliceOf RStr Φ 1 s x.vars/\REx Φ b x.body:=by
 cases x with
 | mk con vars body=>
  simp only [RArm,RArm',Arm.con,Arm.vars,Arm.body,REx]
  constructor
  ·rintro ⟨s,b,h1,_,c,a⟩;exact ⟨s,b,h1,c,a⟩
  ·rintro ⟨s,b,h1,c,a⟩
   refine ⟨s,b,h1,?_,c,a⟩
   obtain ⟨s,t,rfl,_⟩:=REx.iff.1 (show REx Φ b body from a)
   rfl
mutual
theorem REx'.mono {Φ Ψ:Fz} (hl:Φ.Le Ψ):∀{x:Ex} {cs:List Value},REx' Φ x cs->REx' Ψ x cs
 | .mk _ _ _ _ _,_,⟨s,t,d,f,h1,a,e,g,i,j⟩=>⟨s,t,d,f,h1,a,e.mono hl,REs'.mono hl g,i.mono hl,RArms'.mono hl j⟩
theorem REs'.mono {Φ Ψ:Fz} (hl:Φ.Le Ψ):∀{xs:List Ex} {cs:List Value},REs' Φ xs cs->REs' Ψ xs cs
 | [],_,h=>h
 | _::_,_,⟨c,rest,h1,a,e,g⟩=>⟨c,rest,h1,a,REx'.mono hl e,REs'.mono hl g⟩
theorem RArm'.mono {Φ Ψ:Fz} (hl:Φ.Le Ψ):∀{x:Arm} {cs:List Value},RArm' Φ x cs->RArm' Ψ x cs
 | .mk _ _ _,_,⟨s,b,h1,a,e,g⟩=>⟨s,b,h1,a,e.mono RStr.mono hl,REx'.mono hl g⟩
theorem RArms'.mono {Φ Ψ:Fz} (hl:Φ.Le Ψ):∀{xs:List Arm} {cs:List Value},RArms' Φ xs cs->RArms' Ψ xs cs
 | [],_,h=>h
 | _::_,_,⟨c,rest,h1,a,e,g⟩=>⟨c,rest,h1,a,RArm'.mono hl e,RArms'.mono hl g⟩
end
theorem REx.mono (Φ Ψ:Fz) (c:List Value) (x:Ex) (hl:Φ.Le Ψ) (h:REx Φ c x):REx Ψ c x:=REx'.mono hl h
theorem RArm.mono (Φ Ψ:Fz) (c:List Value) (x:Arm) (hl:Φ.Le Ψ) (h:RArm Φ c x):RArm Ψ c x:=RArm'.mono hl h
def RParam (_:Fz) (cs:List Value) (x:Param):Prop:=cs=[.string x.name,.string x.type]
theorem RParam.mono (Φ Ψ:Fz) (c:List Value) (x:Param) (_:Φ.Le Ψ) (h:RParam Φ c x):RParam Ψ c x:=h
def RCon (Φ:Fz) (cs:List Value) (x:Con):Prop:=∃s,cs=[.string x.name,s]/\SliceOf RStr Φ 1 s x.fields
theorem RCon.mono (Φ Ψ:Fz) (c:List Value) (x:Con) (hl:Φ.Le Ψ) (h:RCon Φ c x):RCon Ψ c x:=let ⟨s,h1,a⟩:=h;⟨s,h1,a.mono RStr.mono hl⟩
def RData (Φ:Fz) (cs:List Value) (x:Data):Prop:=∃s,cs=[.string x.name,s]/\SliceOf RCon Φ 2 s x.cons
theorem RData.mono (Φ Ψ:Fz) (c:List Value) (x:Data) (hl:Φ.Le Ψ) (h:RData Φ c x):RData Ψ c x:=let ⟨s,h1,a⟩:=h;⟨s,h1,a.mono RCon.mono hl⟩
def RFun (Φ:Fz) (cs:List Value) (x:Fun):Prop:=∃s b,cs=.string x.name::s::.string x.result::b/\SliceOf RParam Φ 2 s x.params/\REx Φ b x.body
theorem RFun.mono (Φ Ψ:Fz) (c:List Value) (x:Fun) (hl:Φ.Le Ψ) (h:RFun Φ c x):RFun Ψ c x:=let ⟨s,b,h1,a,d⟩:=h;⟨s,b,h1,a.mono RParam.mono hl,REx.mono _ _ _ _ hl d⟩
def RCore (Φ:Fz) (cs:List Value) (x:Core):Prop :=
 ∃s t u v,cs=[s,t,u,v]/\SliceOf RData Φ 2 s x.datas/\SliceOf RParam Φ 2 t x.inputs/\SliceOf RFun Φ 8 u x.funs/\SliceOf RStr Φ 1 v x.outputs
theorem RCore.mono (Φ Ψ:Fz) (c:List Value) (x:Core) (hl:Φ.Le Ψ) (h:RCore Φ c x):RCore Ψ c x :=
 let ⟨s,t,u,v,h1,a,b,d,e⟩:=h;⟨s,t,u,v,h1,a.mono RData.mono hl,b.mono RParam.mono hl,d.mono RFun.mono hl,e.mono RStr.mono hl⟩
def RNamed (Φ:Fz) (cs:List Value) (x:Named):Prop:=∃b,cs=.string x.name::b/\RVal Φ b x.value
theorem RNamed.mono (Φ Ψ:Fz) (c:List Value) (x:Named) (hl:Φ.Le Ψ) (h:RNamed Φ c x):RNamed Ψ c x:=let ⟨b,h1,a⟩:=h;⟨b,h1,RVal.mono _ _ _ _ hl a⟩
theorem zA {α:Type} {l:List α} {i:Nat} {x:α} (h:l[i]? = some x):l.drop i=x::l.drop (i+1):=by
 obtain ⟨h1,a⟩:=List.getElem?_eq_some_iff.1 h
 rw [<- a];exact List.drop_eq_getElem_cons h1
theorem zZ {α:Type} {l:List α} {i:Nat} (h:i < l.length):∃x,l[i]? = some x:=⟨_,List.getElem?_eq_getElem h⟩
theorem q4n {α:Type} {l:List α} {i:Nat} (h:i < l.length):l≠[]:=by rintro rfl;simp at h
end Go.Sw

namespace Go.Sw
def yX {σ α:Type} (step:σ->α->Bool×σ):σ->List α->Nat->Int×σ
 | s,[],_=>(-1,s)
 | s,x::xs,i=>if (step s x).1 then ((i:Int),(step s x).2) else yX step (step s x).2 xs (i+1)
def z8s {σ α:Type} (step:σ->α->Bool×σ):σ->List α->Bool
 | _,[]=>false
 | s,x::xs=>if (step s x).1 then true else z8s step (step s x).2 xs
theorem kO {σ α:Type} (step:σ->α->Bool×σ):∀(l:List α) (s:σ) (i:Nat),decide (0<=(yX step s l i).1)=z8s step s l
 | [],s,i=>by simp [yX,z8s]
 | x::xs,s,i=>by
  simp only [yX,z8s]
  split
  ·simp
  ·exact kO step xs (step s x).2 (i+1)
theorem aF {σ α:Type} {p:α->Bool} {s:σ}:∀(l:List α),z8s (fun (s:σ) x=>(p x,s)) s l=l.any p
 | []=>rfl
 | x::xs=>by simp only [z8s,aF xs,List.any_cons];cases p x <;> rfl
theorem zB {α:Type} {l:List α} {i:Nat} (h:¬i < l.length):l.drop i=[]:=List.drop_of_length_le (by omega)
theorem mgQ {α:Type} {l:List α} {i:Nat} {a:α} (h:l[i]? = some a):a ∈ l:=List.mem_of_getElem? h
theorem lcQ {α:Type} {a:α} {l:List α}:(a::l).length=l.length+1:=rfl
theorem lnQ {α:Type}:([]:List α).length=0:=rfl
theorem laQ {α:Type} {a b:List α}:(a++b).length=a.length+b.length:=List.length_append
theorem msQ {α:Type} {a:α} {l:List α}:a ∈ a::l:=List.mem_cons_self
theorem mcQ {α:Type} {a:α} {l:List α} (y:α) (h:a ∈ l):a ∈ y::l:=List.mem_cons_of_mem y h
theorem baQ (a b:Bool):((a&&b)=true)=(a=true/\b=true):=Bool.and_eq_true a b
end Go.Sw
