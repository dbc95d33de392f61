import Derived.Tactics
import Derived.Laws.AppendOwn
import Derived.KernelRfl
import Derived.Still
import Derived.OrdersIn
import Derived.RangeFuncCalls
import Derived.OwnWalkIn
import Derived.Laws.Strings
import Derived.Laws.Tables
import Derived.Laws.CopyRow
import Derived.Laws.Entries
import Derived.Deep.LoopGhost
set_option linter.unusedVariables false
set_option linter.unusedSimpArgs false
namespace Go.Sw
@[simp] abbrev ZA:Value:=.int .i64 ((0:Nat):Int)
@[simp] abbrev ZB:Value:=.slice none 0 0
@[simp] abbrev ZT:List Value:=[ZA,.string ⟨#[]⟩,.string ⟨#[]⟩,ZA,ZA,ZB,ZB,ZB]
def get:List (Nat×Value)->Nat->Option Value
 | [],_=>none
 | (n,v)::E,t=>bif Nat.beq n t then some v else get E t
def ev (E:List (Nat×Value)):Operand->Option Value
 | .tmp t=>get E t
 | .const v=>some v
 | .global g=>some (.pointer (some ⟨g,0,none⟩))
 | .func f=>some (.func (.func f) #[] #[])
def evs (E:List (Nat×Value)):List Operand->Option (List Value)
 | []=>some []
 | x::xs=>match ev E x,evs E xs with
  | some v,some vs=>some (v::vs)
  | _,_=>none
structure EnvR (n:Nat) (E:List (Nat×Value)) (D:List Deferred) (a:Act):Prop where
 size:a.tmps.size=n
 env:∀t v,get E t=some v->a.tmps[t]? = some v
 defs:a.defers=D
section
variable {n:Nat} {E:List (Nat×Value)} {D:List Deferred} {a:Act}
theorem EnvR.ev (h:EnvR n E D a) {x:Operand} {v:Value} (b:ev E x=some v):a.eval x=v:=by
 cases x with
 | tmp t=>have:=h.env t v b;simp [Act.eval,Array.getD_eq_getD_getElem?,this]
 | const c=>simp only [Sw.ev,Option.some.injEq] at b;exact b
 | global g=>simp only [Sw.ev,Option.some.injEq] at b;exact b
 | func f=>simp only [Sw.ev,Option.some.injEq] at b;exact b
theorem EnvR.evs (h:EnvR n E D a):∀{xs:List Operand} {vs:List Value},evs E xs=some vs->xs.map a.eval=vs
 | [],vs,b=>by simp [Sw.evs] at b;simp [b]
 | x::xs,vs,b=>by
  simp only [Sw.evs] at b;split at b
  ·rename_i v vs' c d
   simp only [Option.some.injEq] at b;subst b
   simp [h.ev c,EnvR.evs h d]
  ·cases b
theorem EnvR.evsA (h:EnvR n E D a) {xs:Array Operand} {vs:List Value} (b:Sw.evs E xs.toList=some vs):xs.map a.eval=vs.toArray:=by
 apply Array.ext'
 simp [h.evs b]
theorem xW {E:List (Nat×Value)} {d t:Nat} {v u:Value} (a:get ((d,v)::E) t=some u):(d=t/\v=u)∨(d≠t/\get E t=some u):=by
 simp only [get] at a;cases hb:Nat.beq d t with
 | true=>
  have:d=t:=by simpa using hb
  simp only [hb,cond_true,Option.some.injEq] at a;exact .inl ⟨this,a⟩
 | false=>
  simp only [hb,cond_false] at a;exact .inr ⟨Nat.ne_of_beq_eq_false hb,a⟩
theorem EnvR.put (h:EnvR n E D a) {d:Nat} {v:Value} (e:Nat.blt d n=true):EnvR n ((d,v)::E) D (a.put (some d) v):=by
 have hd':d < n:=by simpa [Nat.blt_eq] using e
 refine ⟨by simp [Act.put,h.size],fun t u c=>?_,by simp [Act.put,h.defs]⟩;rcases xW c with ⟨rfl,rfl⟩ | ⟨b,c⟩
 ·simp [Act.put,h.size,hd']
 ·simp only [Act.put]
  rw [Array.getElem?_setIfInBounds_ne b];exact h.env t u c
theorem EnvR.put_none (h:EnvR n E D a) {v:Value}:EnvR n E D (a.put none v):=by simpa [Act.put] using h
theorem EnvR.sub (h:EnvR n E D a) {E':List (Nat×Value)} (O:∀t v,get E' t=some v->get E t=some v):EnvR n E' D a :=
 ⟨h.size,fun t v b=>h.env t v (O t v b),h.defs⟩
def Sub:List (Nat×Value)->List (Nat×Value)->Prop
 | [],_=>True
 | (t,v)::E',E=>get E t=some v/\Sub E' E
theorem EnvR.of_sub (h:EnvR n E D a) {E':List (Nat×Value)} (O:Sub E' E):EnvR n E' D a:=by
 refine h.sub ?_;clear h
 induction E' with
 | nil=>intro t v b;simp [get] at b
 | cons p E' c=>
  intro t v b;rcases xW b with ⟨rfl,rfl⟩ | ⟨_,b⟩
  ·exact O.1
  ·exact c O.2 t v b
def y8r (t:Nat):List (Nat×Value)->Bool
 | []=>false
 | (u,_)::E=>bif Nat.beq u t then true else y8r t E
theorem z9q {t:Nat}:∀{E:List (Nat×Value)},y8r t E=false->get E t=none
 | [],_=>rfl
 | (u,v)::E,h=>by
  simp only [y8r] at h;cases hb:Nat.beq u t with
  | true=>simp [hb] at h
  | false=>
   simp only [hb,cond_false] at h;simp only [get,hb,cond_false];exact z9q h
def j1d:Nat->List (Nat×Value)->Bool
 | 0,_=>true
 | _+1,[]=>true
 | k+1,(t,_)::E=>(!y8r t (E.drop k))&&j1d k E
theorem y5o:∀(k:Nat) (E:List (Nat×Value)),j1d k E=true->∀t v,get (E.drop k) t=some v->get E t=some v
 | 0,_,_,_,_,h=>h
 | _+1,[],_,_,_,h=>h
 | k+1,(u,x)::E,a,t,v,h=>by
  simp only [j1d,Bool.and_eq_true,Bool.not_eq_true'] at a;have h':get E t=some v:=y5o k E a.2 t v h
  have b:Nat.beq u t=false:=by
   cases hb:Nat.beq u t with
   | false=>rfl
   | true=>
    have:u=t:=by simpa using hb
    subst this;have:=z9q a.1;simp only [List.drop_succ_cons] at h;rw [h] at this;cases this
  simp only [get,b,cond_false];exact h'
theorem EnvR.drop (h:EnvR n E D a) (k:Nat) (b:j1d k E=true):EnvR n (E.drop k) D a:=h.sub (y5o k E b)
end
structure Fz where
 obj:Nat->Option Obj
 os:Os
 out:Array (Nat×ByteArray)
structure Fz.Le (Φ Ψ:Fz):Prop where
 obj:∀b o,Φ.obj b=some o->Ψ.obj b=some o
 os:Ψ.os=Φ.os
 out:Ψ.out=Φ.out
theorem Fz.Le.refl (Φ:Fz):Φ.Le Φ:=⟨fun _ _ h=>h,rfl,rfl⟩
theorem Fz.Le.trans {Φ Ψ Χ:Fz} (h:Φ.Le Ψ) (h':Ψ.Le Χ):Φ.Le Χ:=⟨fun b o hb=>h'.obj b o (h.obj b o hb),h'.os.trans h.os,h'.out.trans h.out⟩
def Fz.add (Φ:Fz) (b:Nat) (o:Obj):Fz:={ Φ with obj:=fun c=>if c=b then some o else Φ.obj c }
theorem Fz.le_add {Φ:Fz} {b:Nat} (h:Φ.obj b=none) (o:Obj):Φ.Le (Φ.add b o) :=
 ⟨fun c x a=>by
  simp only [Fz.add];split
  ·subst_vars;rw [h] at a;cases a
  ·exact a,rfl,rfl⟩
structure At (Φ:Fz) (p:Addr) (cs:List Value):Prop where
 spot:p.spot=none
 ex:∃arr T fr,Φ.obj p.block=some (.cells arr T fr)/\∀j v,cs[j]? = some v->arr[p.off+j]? = some v
theorem At.mono {Φ Ψ:Fz} {p:Addr} {cs:List Value} (h:At Φ p cs) (hl:Φ.Le Ψ):At Ψ p cs :=
 ⟨h.spot,let ⟨arr,T,fr,a,b⟩:=h.ex;⟨arr,T,fr,hl.obj _ _ a,b⟩⟩
structure MapOk (es:Array MapEntry) (clock:Nat) (m:List (ByteArray×Value)):Prop where
 eq:es.toList.map (fun e=>(e.key,e.val))=m.map (fun p=>(Value.string p.1,p.2))
 old:∀e∈es.toList,e.born < clock
 nodup:(es.toList.map (·.born)).Nodup
structure MapOkI (es:Array MapEntry) (clock:Nat) (m:List (Int×Value)):Prop where
 eq:es.toList.map (fun e=>(e.key,e.val))=m.map (fun p=>(Value.int .i64 p.1,p.2))
 old:∀e∈es.toList,e.born < clock
 nodup:(es.toList.map (·.born)).Nodup
inductive Res where
 | blk (b:Nat) (o:Obj)
 | gs (v:Value) (T:TypeId) (k:Nat) (cs:List Value)
 | mp (b:Nat) (m:List (ByteArray×Value))
 | imp (b:Nat) (m:List (Int×Value))
def Res.foot:Res->Option Nat
 | .blk b _=>some b
 | .gs v _ _ _=>v.ownBlock
 | .mp b _=>some b
 | .imp b _=>some b
def Res.sat (w:World):Res->Prop
 | .blk b o=>w.heap[b]? = some o
 | .gs v T k cs=>∃n,w.ownsRow 0 T k v n cs
 | .mp b m=>∃es clock,w.heap[b]? = some (.map es clock)/\MapOk es clock m
 | .imp b m=>∃es clock,w.heap[b]? = some (.map es clock)/\MapOkI es clock m
def keys (K:List Res):List Nat:=K.filterMap Res.foot
structure Sees (Φ:Fz) (K:List Res) (w:World):Prop where
 fz:∀b o,Φ.obj b=some o->w.heap[b]? = some o
 own:∀r∈K,r.sat w
structure Mem (Φ:Fz) (K:List Res) (w:World):Prop extends Sees Φ K w where
 os:w.os=Φ.os
 out:w.output=Φ.out
 nodup:(keys K).Nodup
 apart:∀b∈keys K,Φ.obj b=none
def yU:List Res->Nat->Option Res
 | [],_=>none
 | x::_,0=>some x
 | _::K,i+1=>yU K i
def wA:List Res->Nat->Res->List Res
 | [],_,_=>[]
 | _::K,0,r=>r::K
 | x::K,i+1,r=>x::wA K i r
def cZ:List Res->Nat->List Res
 | [],_=>[]
 | _::K,0=>K
 | x::K,i+1=>x::cZ K i
theorem yR:∀{K:List Res} {i:Nat} {r:Res},yU K i=some r->r∈K
 | [],_,_,h=>by simp [yU] at h
 | x::_,0,r,h=>by simp only [yU,Option.some.injEq] at h;subst h;exact List.mem_cons_self
 | _::K,i+1,r,h=>List.mem_cons_of_mem _ (yR (K:=K) (i:=i) h)
theorem uH:∀{K:List Res} {i:Nat} {r:Res},yU K i=some r->K.Perm (r::cZ K i)
 | [],_,_,h=>by simp [yU] at h
 | x::K,0,r,h=>by simp only [yU,Option.some.injEq] at h;subst h;exact .refl _
 | x::K,i+1,r,h=>by
  have:=uH (K:=K) (i:=i) h;exact (this.cons x).trans (.swap _ _ _)
theorem z4x:∀{K:List Res} {i:Nat} {r:Res},yU K i=some r->∀r',(wA K i r').Perm (r'::cZ K i)
 | [],_,_,h,_=>by simp [yU] at h
 | x::K,0,r,h,_=>.refl _
 | x::K,i+1,r,h,r'=>by
  have:=z4x (K:=K) (i:=i) h r';exact (this.cons x).trans (.swap _ _ _)
section
variable {Φ Ψ:Fz} {K K':List Res} {w w':World} {r r':Res}
theorem Res.lt (h:r.sat w) {b:Nat} (hb:r.foot=some b):b < w.heap.size:=by
 cases r with
 | blk c o=>simp only [Res.foot,Option.some.injEq] at hb;subst hb;exact (Array.getElem?_eq_some_iff.1 h).1
 | gs v T k cs=>obtain ⟨n,h⟩:=h;exact (h.lt b hb).2
 | mp c m=>obtain ⟨es,clock,h,_⟩:=h;simp only [Res.foot,Option.some.injEq] at hb;subst hb;exact (Array.getElem?_eq_some_iff.1 h).1
 | imp c m=>obtain ⟨es,clock,h,_⟩:=h;simp only [Res.foot,Option.some.injEq] at hb;subst hb;exact (Array.getElem?_eq_some_iff.1 h).1
theorem Res.sat_same (h:r.sat w) (O:∀b,r.foot=some b->w'.heap[b]? = w.heap[b]?):r.sat w':=by
 cases r with
 | blk c o=>simp only [Res.sat] at h ⊢;rw [O c rfl];exact h
 | gs v T k cs=>
  obtain ⟨n,d,a⟩:=h;refine ⟨n,d,?_⟩;rcases a with a | ⟨g,cap,cur,rfl,hb,e,rest⟩
  ·exact .inl a
  ·exact .inr ⟨g,cap,cur,rfl,hb,by rw [O g rfl];exact e,rest⟩
 | mp c m=>
  obtain ⟨es,clock,d,a⟩:=h;exact ⟨es,clock,by rw [O c rfl];exact d,a⟩
 | imp c m=>
  obtain ⟨es,clock,d,a⟩:=h;exact ⟨es,clock,by rw [O c rfl];exact d,a⟩
theorem Mem.perm (h:Mem Φ K w) (c:K.Perm K'):Mem Φ K' w :=
 have a:(keys K).Perm (keys K'):=c.filterMap _
 { fz:=h.fz,own:=fun r d=>h.own r (c.mem_iff.2 d),os:=h.os,out:=h.out,nodup:=a.nodup_iff.1 h.nodup,apart:=fun b hb=>h.apart b (a.mem_iff.2 hb) }
theorem mem_keys {b:Nat}:b∈keys K↔∃r∈K,r.foot=some b:=by simp [keys]
theorem Mem.lt (h:Mem Φ K w) {b:Nat} (hb:b∈keys K):b < w.heap.size:=by
 obtain ⟨r,c,a⟩:=mem_keys.1 hb;exact Res.lt (h.own r c) a
theorem Mem.drew (h:Mem Φ K w):Mem Φ K { w with drawn:=w.drawn+1 }:={ h with own:=fun r a=>Res.sat_same (h.own r a) (fun _ _=>rfl) }
theorem Mem.fzlt (h:Mem Φ K w) {b:Nat} {o:Obj} (hb:Φ.obj b=some o):b < w.heap.size:=(Array.getElem?_eq_some_iff.1 (h.fz b o hb)).1
theorem Mem.head (h:Mem Φ (r::K) w) (m:w'.os=w.os) (j:w'.output=w.output)
  (c:∀b,b < w.heap.size->some b≠r.foot->w'.heap[b]? = w.heap[b]?) (k:r'.sat w') (a:r'.foot=r.foot∨∀b,r'.foot=some b->w.heap.size<=b):Mem Φ (r'::K) w':=by
 have n:∀b,r.foot=some b->b∉keys K:=fun b hb l=>by
  have:=h.nodup;simp only [keys,List.filterMap_cons,hb,List.nodup_cons] at this;exact this.1 l
 have i:(keys K).Nodup:=by
  have:=h.nodup;simp only [keys,List.filterMap_cons] at this;split at this
  ·exact this
  ·exact (List.nodup_cons.1 this).2
 have g:∀b,b∈keys K->b∈keys (r::K):=fun b hb=>by
  obtain ⟨x,f,d⟩:=mem_keys.1 hb;exact mem_keys.2 ⟨x,List.mem_cons_of_mem _ f,d⟩
 refine { fz:=fun b o hb=>?_,own:=fun x f=>?_,os:=m.trans h.os,out:=j.trans h.out,nodup := ?_,apart:=fun b hb=>?_ }
 ·rw [c b (h.fzlt hb) (fun e=>by
   have:=h.apart b (mem_keys.2 ⟨r,List.mem_cons_self,e.symm⟩)
   rw [this] at hb;cases hb)]
  exact h.fz b o hb
 ·rcases List.mem_cons.1 f with rfl | f
  ·exact k
  ·have hx':=h.own x (List.mem_cons_of_mem _ f)
   refine Res.sat_same hx' fun b hb=>c b (Res.lt hx' hb) fun e=>n b e.symm (mem_keys.2 ⟨x,f,hb⟩)
 ·cases d:r'.foot with
  | none=>simp only [keys,List.filterMap_cons,d];exact i
  | some b=>
   simp only [keys,List.filterMap_cons,d,List.nodup_cons];refine ⟨fun l=>?_,i⟩;rcases a with e | e
   ·exact n b (e▸d) l
   ·have:=h.lt (g b l);have:=e b d;omega
 ·obtain ⟨x,f,d⟩:=mem_keys.1 hb
  rcases List.mem_cons.1 f with rfl | f
  ·rcases a with e | e
   ·exact h.apart b (mem_keys.2 ⟨r,List.mem_cons_self,e▸d⟩)
   ·cases p:Φ.obj b with
    | none=>rfl
    | some o=>have:=h.fzlt p;have:=e b d;omega
  ·exact h.apart b (g b (mem_keys.2 ⟨x,f,d⟩))
theorem Mem.upd (h:Mem Φ K w) {i:Nat} (g:yU K i=some r) (f:w'.os=w.os) (d:w'.output=w.output)
  (c:∀b,b < w.heap.size->some b≠r.foot->w'.heap[b]? = w.heap[b]?) (e:r'.sat w') (a:r'.foot=r.foot∨∀b,r'.foot=some b->w.heap.size<=b):Mem Φ (wA K i r') w' :=
 ((h.perm (uH g)).head f d c e a).perm (z4x g r').symm
theorem Mem.more (h:Mem Φ K w) (g:w'.os=w.os) (d:w'.output=w.output) (c:∀b,b < w.heap.size->w'.heap[b]? = w.heap[b]?)
  (f:r.sat w') (a:∀b,r.foot=some b->w.heap.size<=b):Mem Φ (r::K) w':=by
 have j:Mem Φ (.gs (.slice none 0 0) 0 0 []::K) w :=
  { fz:=h.fz,own:=(fun x i=>(List.mem_cons.1 i).elim (fun e=>by subst e;exact ⟨0,World.ownsRow_nil w 0 0 0⟩) (fun i=>h.own x i)),os:=h.os,out:=h.out,nodup:=(show (keys K).Nodup from h.nodup),apart:=fun b hb=>h.apart b (show b∈keys K from hb) }
 exact j.head g d (fun b hb _=>c b hb) f (.inr a)
theorem Mem.nilRow (h:Mem Φ K w) (T:TypeId) (k:Nat):Mem Φ (.gs (.slice none 0 0) T k []::K) w :=
 h.more rfl rfl (fun _ _=>rfl) ⟨0,World.ownsRow_nil w 0 T k⟩ (by simp [Res.foot,Value.ownBlock])
theorem Mem.tail (h:Mem Φ (r::K) w):Mem Φ K w :=
 { fz:=h.fz,own:=fun x a=>h.own x (List.mem_cons_of_mem _ a),os:=h.os,out:=h.out,nodup:=(by
   have:=h.nodup;simp only [keys,List.filterMap_cons] at this;split at this
   ·exact this
   ·exact (List.nodup_cons.1 this).2),apart:=(fun b hb=>by
   obtain ⟨x,a,c⟩:=mem_keys.1 hb
   exact h.apart b (mem_keys.2 ⟨x,List.mem_cons_of_mem _ a,c⟩)) }
theorem Mem.del (h:Mem Φ K w) (i:Nat):Mem Φ (cZ K i) w:=by
 cases a:yU K i with
 | some r=>exact (h.perm (uH a)).tail
 | none=>
  have:∀(K:List Res) i,yU K i=none->cZ K i=K:=by
   intro K
   induction K with
   | nil=>intro i _;rfl
   | cons x K b=>
    intro i hi;cases i with
    | zero=>simp [yU] at hi
    | succ i=>simp only [yU] at hi;simp only [cZ,b i hi]
  rw [this K i a];exact h
theorem Mem.pull (h:Mem Φ K w) {i:Nat} (a:yU K i=some r):Mem Φ (r::cZ K i) w:=h.perm (uH a)
theorem Mem.put {i:Nat} (h:Mem Φ (r::K) w) (b:yU K' i=some r') (a:cZ K' i=K):Mem Φ (wA K' i r) w :=
 h.perm (a▸(z4x b r).symm)
theorem Mem.le (h:Mem Φ K w) (hl:Ψ.Le Φ):Mem Ψ K w :=
 { fz:=fun b o hb=>h.fz b o (hl.obj b o hb),own:=h.own,os:=h.os.trans hl.os,out:=h.out.trans hl.out,nodup:=h.nodup,apart:=(fun b hb=>by
   cases a:Ψ.obj b with
   | none=>rfl
   | some o=>have:=h.apart b hb;rw [hl.obj b o a] at this;cases this) }
theorem Mem.no (h:Mem Φ (r::K) w) {b:Nat} (hb:r.foot=some b):Φ.obj b=none:=h.apart b (mem_keys.2 ⟨r,List.mem_cons_self,hb⟩)
theorem Mem.freezeHead (h:Mem Φ (r::K) w) {b:Nat} {o:Obj} (hb:r.foot=some b) (g:w.heap[b]? = some o):Mem (Φ.add b o) K w :=
 have f:=h.tail
 { fz:=(fun c x a=>by
   simp only [Fz.add] at a;split at a
   ·subst_vars;simp only [Option.some.injEq] at a;subst a;exact g
   ·exact h.fz c x a),own:=f.own,os:=h.os,out:=h.out,nodup:=f.nodup,apart:=(fun c a=>by
   have d:c≠b:=fun e=>by
    have:=h.nodup;simp only [keys,List.filterMap_cons,hb,List.nodup_cons] at this;exact this.1 (e▸a)
   simp only [Fz.add,if_neg d]
   exact f.apart c a) }
end
end Go.Sw

namespace Go.Sw
section
variable {P:Program} {ops:Array Oper} {md:Region.Mode} {B:World->Prop} {kd:List Nat} {Qp:List PanicEntry->World->Prop} {D:List Deferred}
def kK (P:Program) (K:Value->World->Prop) (Qp:List PanicEntry->World->Prop):Result Next->Prop
 | .ok (.value v) w'=>K v w'
 | .ok .skip w'=>K undef w'
 | .ok (.enter f args) w'=>Calls P f args w' fun
   | .returned v,w''=>K v w''
   | .panicked chain,w''=>Qp chain w''
   | .outgrown,_=>False
 | .halt (.panic v) w'=>Qp [{ v,recovered:=false }] w'
 | _=>False
def Oper.eff (P:Program) (o:Oper) (a:Act) (w:World) (K:Value->World->Prop) (Qp:List PanicEntry->World->Prop):Prop :=
 kK P K Qp ((execOp a.eval o).run P w)
theorem xE {K K':Value->World->Prop} {Qp Qp':List PanicEntry->World->Prop} {r:Result Next} (h:kK P K Qp r) (a:∀v w,K v w->K' v w) (b:∀c w,Qp c w->Qp' c w):kK P K' Qp' r:=by
 cases r with
 | ok n w'=>
  cases n <;> simp only [kK] at h ⊢
  case value=>exact a _ _ h
  case skip=>exact a _ _ h
  case enter f args=>exact h.mono fun e w'' J=>by cases e <;> first | exact a _ _ J | exact b _ _ J | exact J
 | halt x w'=>cases x <;> simp only [kK] at h ⊢;exact b _ _ h
theorem hY {o:Oper} {a:Act} {w:World} {K:Act->World->Prop} {Q:Exit->Act->World->Prop}
  (h:Oper.eff P o a w (fun v w'=>K (a.put o.dst v) w') (fun c w'=>Q (.panic c) a w')):o.wp P a w K Q:=by
 unfold Oper.eff at h;unfold Oper.wp;generalize (execOp a.eval o).run P w=r at *;cases r with
 | ok n w'=>
  cases n <;> simp only [kK] at h <;> simp only [Oper.upon]
  case value=>exact h
  case skip=>exact h
  case enter f args=>exact h.mono fun e w'' J=>by cases e <;> first | exact J | exact J.elim
 | halt x w'=>cases x <;> simp only [kK] at h;simp only [Oper.upon];exact h
def mP (P:Program) (K:Value->World->Prop) (Qp:List PanicEntry->World->Prop):Result Next->Prop
 | .ok (.value v) w'=>K v w'
 | .ok .skip w'=>K undef w'
 | .ok (.enter f args) w'=>Calls P f args w' fun
   | .returned v,w''=>K v w''
   | .panicked chain,w''=>Qp chain w''
   | .outgrown,_=>False
 | .ok (.round l f tmps assign body) w'=>RoundIn Fence.wide 2 P l f tmps assign body w' fun
   | .returned v,w''=>K v w''
   | .panicked chain,w''=>Qp chain w''
   | .outgrown,_=>False
 | .halt (.panic v) w'=>Qp [{ v,recovered:=false }] w'
 | _=>False
def Oper.effR (P:Program) (o:Oper) (a:Act) (w:World) (K:Value->World->Prop) (Qp:List PanicEntry->World->Prop):Prop :=
 mP P K Qp ((execOp a.eval o).run P w)
theorem xB {K K':Value->World->Prop} {Qp Qp':List PanicEntry->World->Prop} {r:Result Next} (h:mP P K Qp r) (a:∀v w,K v w->K' v w) (b:∀c w,Qp c w->Qp' c w):mP P K' Qp' r:=by
 cases r with
 | ok n w'=>
  cases n <;> simp only [mP] at h ⊢
  case value=>exact a _ _ h
  case skip=>exact a _ _ h
  case enter f args=>exact h.mono fun e w'' J=>by cases e <;> first | exact a _ _ J | exact b _ _ J | exact J
  case round l f tmps assign body=>exact h.mono fun e w'' J=>by cases e <;> first | exact a _ _ J | exact b _ _ J | exact J
 | halt x w'=>cases x <;> simp only [mP] at h ⊢;exact b _ _ h
theorem Oper.eff.toR {o:Oper} {a:Act} {w:World} {K:Value->World->Prop} (h:Oper.eff P o a w K Qp):Oper.effR P o a w K Qp:=by
 unfold Oper.eff at h;unfold Oper.effR;generalize (execOp a.eval o).run P w=r at *;cases r with
 | ok n w'=>cases n <;> simp only [kK] at h <;> simp only [mP] <;> exact h
 | halt x w'=>cases x <;> simp only [kK] at h;simp only [mP];exact h
end
def FO:Option Nat->Fence
 | none=>Fence.wide
 | some l=>Fence.wide.inRound l
section
variable {P:Program} {w:World} {r:Option Nat} {m:Nat}
theorem FO.calls {f:FuncId} {args:Array Value} {R:Ending->World->Prop} (h:Calls P f args w R):CallsIn (FO r) m P f args w R:=by
 have:=(callsIn_wide (n:=m)).2 h;cases r with
 | none=>exact this
 | some l=>exact CallsIn.inRound l this
theorem FO.fn (f:FuncId):(FO r).fn f:=by cases r <;> trivial
theorem FO.depth:(FO r).depth.isSome=true->False:=by cases r <;> (intro h;cases h)
theorem q4k {k l:Nat} {f:FuncId} {tmps:Array Value} {assign body:Code} {R:Ending->World->Prop} (h:RoundIn Fence.wide 2 P l f tmps assign body w R):RoundIn (FO r) k P l f tmps assign body w R:=by
 cases r with
 | none=>exact ⟨trivial,fun c cs _=>h.2 c cs (room_wide _)⟩
 | some l'=>exact ⟨trivial,fun c cs _=>h.2 c cs (room_wide _)⟩
end
section
variable {P:Program} {ops:Array Oper} {md:Region.Mode} {B:World->Prop} {kd:List Nat} {Qp:List PanicEntry->World->Prop} {D:List Deferred}
theorem cB {r:Option Nat} {m:Nat} {o:Oper} {a:Act} {w:World} {K:Act->World->Prop} {Q:Exit->Act->World->Prop} (d:r≠none->∀c,o.op≠.defer c)
  (h:Oper.effR P o a w (fun v w'=>K (a.put o.dst v) w') (fun c w'=>Q (.panic c) a w')):o.wpIn (FO r) m P a w K Q:=by
 refine ⟨fun f _=>FO.fn f,?_⟩
 have J:o.semAt (FO r).round a.eval=execOp a.eval o:=by
  cases r with
  | none=>rfl
  | some l=>exact Oper.semAt_plain _ _ _ (d (fun h=>by cases h))
 rw [J];unfold Oper.effR at h;generalize (execOp a.eval o).run P w=q at *;cases q with
 | ok x w'=>
  cases x <;> simp only [mP] at h <;> simp only [Oper.uponIn]
  case value=>exact h
  case skip=>exact h
  case enter f args=>exact ⟨fun b=>(FO.depth b).elim,FO.calls (h.mono fun e w'' J=>by cases e <;> first | exact J | exact J.elim)⟩
  case round l f tmps assign body=>exact ⟨fun b=>(FO.depth b).elim,q4k (h.mono fun e w'' J=>by cases e <;> first | exact J | exact J.elim)⟩
 | halt x w'=>cases x <;> simp only [mP] at h;simp only [Oper.uponIn];exact h
def yQ (kd:List Nat) (i:Nat):Nat:=kd.getD i 0
def dK (md:Region.Mode) (kd:List Nat) (o:Oper):Bool :=
 (List.range kd.length).any fun i=>yQ kd i==2 && !(o.after.any fun e=>Region.binds md e&&e.on==i)
def y7r (P:Program) (B:World->Prop) (k:Nat) (o:Oper) (a:Act) (v:Value):Prop :=
 ∀w,(k=2->B w)->(execOp a.eval o).run P w=.ok (.value v) w
def vR (P:Program) (md:Region.Mode) (ops:Array Oper) (B:World->Prop) (kd:List Nat) (Qp:List PanicEntry->World->Prop) (i:Nat) (K:Act->World->Prop) (a:Act) (w:World):Prop :=
 match ops[i]? with
 | none=>K a w
 | some o=>
  if Region.wanted o (yielded ops a.tmps) then
   if yQ kd i=0 then Oper.effR P o a w (fun v w'=>(dK md kd o=true->B w')/\K (a.put o.dst v) w') Qp
   else ∃v,y7r P B (yQ kd i) o a v/\K (a.put o.dst v) w
  else K (a.put o.dst undef) w
def z7c (P:Program) (md:Region.Mode) (ops:Array Oper) (B:World->Prop) (kd:List Nat) (Qp:List PanicEntry->World->Prop) (Q:Act->World->Prop):Nat->Array Bool->Act->World->Prop
 | 0,listed,a,w=>Region.ready md ops listed=[]/\Q a w
 | n+1,listed,a,w=>(Region.ready md ops listed=[]->Q a w) /\
   ∀i∈Region.ready md ops listed,vR P md ops B kd Qp i (z7c P md ops B kd Qp Q n (listed.setIfInBounds i true)) a w
theorem kP {i:Nat} {K K':Act->World->Prop} {a:Act} {w:World} (b:∀a' w',a'.defers=a.defers->K a' w'->K' a' w') (h:vR P md ops B kd Qp i K a w):vR P md ops B kd Qp i K' a w:=by
 have c:∀(o:Oper) v,(a.put o.dst v).defers=a.defers:=fun o v=>by cases o.dst <;> rfl
 unfold vR at *;cases e:ops[i]? with
 | none=>simp only [e] at h ⊢;exact b _ _ rfl h
 | some o=>
  simp only [e] at h ⊢;by_cases g:Region.wanted o (yielded ops a.tmps)=true
  ·rw [if_pos g] at h ⊢
   by_cases d:yQ kd i=0
   ·rw [if_pos d] at h ⊢;exact xB h (fun v w' f=>⟨f.1,b _ _ (c o v) f.2⟩) (fun _ _ h=>h)
   ·rw [if_neg d] at h ⊢
    obtain ⟨v,j,k⟩:=h;exact ⟨v,j,b _ _ (c o v) k⟩
  ·rw [if_neg g] at h ⊢;exact b _ _ (c o _) h
theorem kS {r:Option Nat} {m:Nat} (A:r≠none->∀(i:Nat) (o:Oper),ops[i]? = some o->∀c,o.op≠.defer c) {Inv:Act->Prop} (z:∀(i:Nat) (o:Oper) (a:Act) (v:Value),ops[i]? = some o->Inv a->Inv (a.put o.dst v)) {Q:Act->World->Prop} {Q':Exit->Act->World->Prop} (hQ:∀a w,Q a w->Q' .normal a w) (L:∀c a w,Inv a->Qp c w->Q' (.panic c) a w) :
  ∀(n:Nat) (listed:Array Bool) (a:Act) (w:World),Inv a->((List.range ops.size).any (fun i=>yQ kd i==2 && !listed.getD i true)=true->B w) ->
   z7c P md ops B kd Qp Q n listed a w->wpAnyIn (FO r) m P md ops Q' n listed a w:=by
 intro n
 induction n with
 | zero=>intro listed a w _ _ h;exact ⟨h.1,hQ _ _ h.2⟩
 | succ n y=>
  intro listed a w u C h;refine ⟨fun G=>hQ _ _ (h.1 G),fun i hi=>?_⟩;have hi':=mem_ready.1 hi
  have j:((List.range ops.size).any (fun k=>yQ kd k==2 && !(listed.setIfInBounds i true).getD k true)=true->B w):=fun s=>by
   apply C;rw [List.any_eq_true] at s ⊢;obtain ⟨k,x,b⟩:=s;simp only [Bool.and_eq_true,beq_iff_eq,Bool.not_eq_true'] at b;refine ⟨k,x,?_⟩;simp only [Bool.and_eq_true,beq_iff_eq,Bool.not_eq_true'];refine ⟨b.1,?_⟩;by_cases g:i=k
   ·subst g;exact hi'.1
   ·rw [getD_set_ne true g] at b;exact b.2
  have d:=h.2 i hi;unfold vR at d;unfold wpOpIn;cases q:ops[i]? with
  | none=>simp only [q] at d ⊢;exact y _ _ _ u j d
  | some o=>
   simp only [q] at d ⊢;by_cases F:Region.wanted o (yielded ops a.tmps)=true
   ·rw [if_pos F] at d ⊢
    refine cB (fun h=>A h _ _ q) ?_;by_cases D:yQ kd i=0
    ·rw [if_pos D] at d
     refine xB d (fun v w' E=>y _ _ _ (z _ _ _ _ q u) (fun s=>E.1 ?_) E.2) (fun c w' K=>L c a w' u K);rw [List.any_eq_true] at s;obtain ⟨k,x,b⟩:=s;simp only [Bool.and_eq_true,beq_iff_eq,Bool.not_eq_true'] at b;unfold dK;rw [List.any_eq_true]
     have p:k < kd.length:=by
      by_cases p:k < kd.length
      ·exact p
      ·have:=b.1
       simp [yQ,List.getD_eq_getElem?_getD,List.getElem?_eq_none (Nat.le_of_not_lt p)] at this
     refine ⟨k,List.mem_range.2 p,?_⟩;simp only [Bool.and_eq_true,beq_iff_eq,Bool.not_eq_true'];refine ⟨b.1,?_⟩;rw [<- Bool.not_eq_true];intro s;obtain ⟨e,J,hb⟩:=Array.any_eq_true'.1 s;simp only [Bool.and_eq_true,beq_iff_eq] at hb;obtain ⟨_,o',ho',t⟩:=hi';rw [q] at ho';cases ho';have hl:=t e J hb.1;rw [hb.2] at hl;have l:=b.2;by_cases g:i=k
     ·subst g
      have:=(mem_ready.1 hi).1;rcases Nat.lt_or_ge i listed.size with h' | h'
      ·simp [h'] at hl this;rw [hl] at this;cases this
      ·simp [Array.getElem?_eq_none h'] at hl
     ·rw [getD_set_ne true g] at l
      rcases Nat.lt_or_ge k listed.size with h' | h'
      ·simp [h'] at hl l;rw [hl] at l;cases l
      ·simp [Array.getElem?_eq_none h'] at hl
    ·rw [if_neg D] at d
     obtain ⟨v,H,I⟩:=d
     have M:=H w (fun e=>C (by
      rw [List.any_eq_true];refine ⟨i,List.mem_range.2 (Array.getElem?_eq_some_iff.1 q).1,?_⟩;simp only [Bool.and_eq_true,beq_iff_eq,Bool.not_eq_true']
      exact ⟨e,hi'.1⟩))
     unfold Oper.effR;rw [M];exact y _ _ _ (z _ _ _ _ q u) j I
   ·rw [if_neg F] at d ⊢
    exact ⟨fun f _=>FO.fn f,y _ _ _ (z _ _ _ _ q u) j d⟩
def cC (P:Program) (ops:Array Oper) (B:World->Prop) (k:Nat) (o:Oper) (a:Act) (v:Value):Prop :=
 (Region.wanted o (yielded ops a.tmps)=true/\y7r P B k o a v)∨(Region.wanted o (yielded ops a.tmps)=false/\v=undef)
theorem q7f {i j:Nat} {oi oj:Oper} {v:Value} (r:ops[j]? = some oj) (c:oi.apart ops oj=true) (d:∀cs b,oi.op≠.select cs b) (e:∀cs b,oj.op≠.select cs b)
  {K K':Act->World->Prop} {a:Act} {w:World} (t:cC P ops B (yQ kd i) oi a v)
  (p:∀u w',cC P ops B (yQ kd i) oi (a.put oj.dst u) v->K ((a.put oj.dst u).put oi.dst v) w'->K' (a.put oj.dst u) w')
  (h:vR P md ops B kd Qp j K (a.put oi.dst v) w):vR P md ops B kd Qp j K' a w:=by
 obtain ⟨f,o,g⟩:=Oper.apart_spec c
 have keep:∀u,cC P ops B (yQ kd i) oi (a.put oj.dst u) v:=fun u=>by
  unfold cC y7r at *;rw [execOp_put oi d a oj.dst u g,wanted_put oi a oj.dst u g];exact t
 have hw':=wanted_put oj a oi.dst v f;have he':=execOp_put oj e a oi.dst v f;unfold vR at *;simp only [r] at h ⊢;rw [hw'] at h;have fin:∀u w',K ((a.put oi.dst v).put oj.dst u) w'->K' (a.put oj.dst u) w':=fun u w' q=>p u w' (keep u) (by rw [<- Act.put_comm a v u o];exact q);by_cases n:Region.wanted oj (yielded ops a.tmps)=true
 ·rw [if_pos n] at h ⊢
  by_cases k:yQ kd j=0
  ·rw [if_pos k] at h ⊢
   unfold Oper.effR at *;rw [he'] at h;exact xB h (fun u w' m=>⟨m.1,fin u w' m.2⟩) (fun _ _ h=>h)
  ·rw [if_neg k] at h ⊢
   obtain ⟨u,l,s⟩:=h;refine ⟨u,?_,fin u w s⟩;unfold y7r at *;rw [he'] at l;exact l
 ·rw [if_neg n] at h ⊢;exact fin undef w h
theorem sV {i:Nat} {oi:Oper} {v:Value} (hi:ops[i]? = some oi) (c:yQ kd i≠0) {K:Act->World->Prop} {a:Act} {w:World} (e:cC P ops B (yQ kd i) oi a v)
  (h:K (a.put oi.dst v) w):vR P md ops B kd Qp i K a w:=by
 unfold vR;simp only [hi];rcases e with ⟨b,d⟩ | ⟨b,rfl⟩
 ·rw [if_pos b,if_neg c];exact ⟨v,d,h⟩
 ·rw [if_neg (by simp [b])];exact h
theorem nL {Q:Act->World->Prop} {i:Nat} {oi:Oper} {v:Value} (hi:ops[i]? = some oi) (g:∀(j:Nat) (o:Oper) cs b,ops[j]? = some o->o.op≠.select cs b) (E:yQ kd i≠0) :
  ∀(n:Nat) (listed:Array Bool) (a:Act) (w:World),
   (∀j oj,ops[j]? = some oj->j≠i->listed.getD j true=false->(∀e∈oj.after,Region.binds md e=true->e.on≠i)->oi.apart ops oj=true) ->
   i∈Region.ready md ops listed->cC P ops B (yQ kd i) oi a v ->
   z7c P md ops B kd Qp Q n (listed.setIfInBounds i true) (a.put oi.dst v) w->z7c P md ops B kd Qp Q (n+1) listed a w:=by
 intro n
 induction n with
 | zero=>
  intro listed a w _ p y H;refine ⟨fun h=>(by rw [h] at p;cases p),fun j x=>?_⟩;by_cases c:j=i
  ·subst c;exact sV hi E y H
  ·have:=ready_mono x c
   rw [H.1] at this;cases this
 | succ n G=>
  intro listed a w d p y H;refine ⟨fun h=>(by rw [h] at p;cases p),fun j x=>?_⟩;by_cases c:j=i
  ·subst c;exact sV hi E y H
  ·have l:=H.2 j (ready_mono x c)
   obtain ⟨f,oj,m,q⟩:=mem_ready.1 x
   have s:∀e∈oj.after,Region.binds md e=true->e.on≠i:=fun e J hb z=>by
    have l:=q e J hb;have D:=(mem_ready.1 p).1;rw [z] at l;rcases Nat.lt_or_ge i listed.size with h' | h'
    ·simp [h'] at D l;rw [D] at l;cases l
    ·simp [Array.getElem?_eq_none h'] at l
   have hfree':∀k ok,ops[k]? = some ok->k≠i->(listed.setIfInBounds j true).getD k true=false ->
     (∀e∈ok.after,Region.binds md e=true->e.on≠i)->oi.apart ops ok=true:=fun k ok hk' A t C=>by
    refine d k ok hk' A ?_ C;by_cases r:j=k
    ·subst r;exact f
    ·rw [getD_set_ne true r] at t;exact t
   refine q7f m (d j oj m c f s) (fun cs b=>g i oi cs b hi) (fun cs b=>g j oj cs b m) y (fun u w' hy' F=>?_) l;refine G _ _ _ hfree' (ready_mono p (Ne.symm c)) hy' ?_;rw [Array.setIfInBounds_comm _ _ c];exact F
inductive Plan where
 | done
 | q (i:Nat) (p:Plan)
 | e (i:Nat) (p:Plan)
 | e2 (i j:Nat) (p r:Plan)
def cS (md:Region.Mode) (ops:Array Oper) (kd:List Nat):Plan->Array Bool->Bool
 | .done,l=>(Region.ready md ops l).isEmpty
 | .q i p,l=>(Region.ready md ops l).contains i&&Region.free md ops l i&&yQ kd i != 0&&cS md ops kd p (l.setIfInBounds i true)
 | .e i p,l=>Region.ready md ops l==[i]&&yQ kd i==0&&cS md ops kd p (l.setIfInBounds i true)
 | .e2 i j p r,l=>Region.ready md ops l==[i,j]&&yQ kd i==0&&yQ kd j==0&&cS md ops kd p (l.setIfInBounds i true)&&cS md ops kd r (l.setIfInBounds j true)
def Plan.len:Plan->Nat
 | .done=>0
 | .q _ p=>p.len+1
 | .e _ p=>p.len+1
 | .e2 _ _ p _=>p.len+1
def Plan.even:Plan->Bool
 | .done=>true
 | .q _ p=>p.even
 | .e _ p=>p.even
 | .e2 _ _ p r=>p.even&&r.even&&p.len==r.len
def zU (P:Program) (md:Region.Mode) (ops:Array Oper) (B:World->Prop) (kd:List Nat) (Qp:List PanicEntry->World->Prop) (Q:Act->World->Prop):Plan->Act->World->Prop
 | .done,a,w=>Q a w
 | .q i p,a,w=>vR P md ops B kd Qp i (zU P md ops B kd Qp Q p) a w
 | .e i p,a,w=>vR P md ops B kd Qp i (zU P md ops B kd Qp Q p) a w
 | .e2 i j p r,a,w=>vR P md ops B kd Qp i (zU P md ops B kd Qp Q p) a w/\vR P md ops B kd Qp j (zU P md ops B kd Qp Q r) a w
theorem xR {Q:Act->World->Prop} (O:Region.noSelect ops=true):∀(p:Plan) (listed:Array Bool) (a:Act) (w:World),p.even=true->cS md ops kd p listed=true ->
  zU P md ops B kd Qp Q p a w->z7c P md ops B kd Qp Q p.len listed a w
 | .done,l,a,w,_,c,h=>⟨by simpa [cS] using c,h⟩
 | .q i p,l,a,w,b,c,h=>by
  simp only [cS,Bool.and_eq_true,List.contains_iff_mem,bne_iff_ne,ne_eq] at c;obtain ⟨⟨⟨d,t⟩,g⟩,c⟩:=c;obtain ⟨_,o,k,_⟩:=mem_ready.1 d;unfold zU vR at h;simp only [k] at h;by_cases n:Region.wanted o (yielded ops a.tmps)=true
  ·rw [if_pos n,if_neg g] at h
   obtain ⟨v,y,z⟩:=h;exact nL k (Region.noSelect_spec O) g _ _ _ _ (Region.free_spec k t) d (.inl ⟨n,y⟩) (xR O p _ _ _ b c z)
  ·rw [if_neg n] at h
   exact nL k (Region.noSelect_spec O) g _ _ _ _ (Region.free_spec k t) d (.inr ⟨by simpa using n,rfl⟩) (xR O p _ _ _ b c h)
 | .e i p,l,a,w,b,c,h=>by
  simp only [cS,Bool.and_eq_true,beq_iff_eq] at c;obtain ⟨⟨d,g⟩,c⟩:=c;simp only [Plan.len,z7c];refine ⟨fun s=>(by rw [s] at d;cases d),fun j u=>?_⟩;rw [d,List.mem_singleton] at u;subst u;exact kP (fun a' w' _ f=>xR O p _ _ _ b c f) h
 | .e2 i j p r,l,a,w,b,c,h=>by
  simp only [cS,Bool.and_eq_true,beq_iff_eq] at c;obtain ⟨⟨⟨⟨d,g⟩,hk'⟩,c⟩,hp'⟩:=c;simp only [Plan.even,Bool.and_eq_true,beq_iff_eq] at b;simp only [Plan.len,z7c];refine ⟨fun s=>(by rw [s] at d;cases d),fun x m=>?_⟩;rw [d] at m;rcases List.mem_cons.1 m with rfl | m
  ·exact kP (fun a' w' _ f=>xR O p _ _ _ b.1.1 c f) h.1
  ·rw [List.mem_singleton] at m
   subst m;exact kP (fun a' w' _ f=>by have:=xR O r _ _ _ b.1.2 hp' f;rw [<- b.2] at this;exact this) h.2
def tN (ops:Array Oper) (kd:List Nat) (p:Plan):Bool:=Region.noSelect ops&&p.even&&p.len==ops.size&&cS .any ops kd p (Array.replicate ops.size false)
theorem y3j {id:Nat} {l:List Oper} {Q:Exit->Act->World->Prop} {a:Act} {w:World} (kd:List Nat) (p:Plan) (B:World->Prop) (Qp:List PanicEntry->World->Prop)
  (N:P.follows .mixedOrders=true) (e:tN l.toArray kd p=true) (g:∀c a w,a.defers=D->Qp c w->Q (.panic c) a w) (f:a.defers=D) (j:B { w with drawn:=w.drawn+1 })
  (h:zU P .any l.toArray B kd Qp (Q .normal) p a { w with drawn:=w.drawn+1 }):(Code.region id l.toArray true).wp P Q a w:=by
 simp only [tN,Bool.and_eq_true,beq_iff_eq] at e;obtain ⟨⟨⟨O,b⟩,hl⟩,d⟩:=e;refine (wpIn_wide (n:=3)).1 (wpIn_region_any N (kS (r:=none) (Inv:=fun a=>a.defers=D) (kd:=kd) (B:=B) (Qp:=Qp) (Q:=Q .normal) (fun h=>absurd rfl h) (fun i o a v _ J=>by cases k:o.dst <;> exact J) (fun _ _ h=>h) (fun c a w J h=>g c a w J h) _ _ _ _ f (fun _=>j) ?_));have:=xR O p _ _ _ b d h;rw [hl] at this;exact this
end
end Go.Sw

namespace Go.Sw
variable {P:Program} {n:Nat} {E:List (Nat×Value)} {D:List Deferred} {a:Act} {Φ Ψ:Fz} {K:List Res} {w:World}
variable {dst:Option Tmp} {ty:TypeId} {pos:String} {aft:Array Edge} {g:Option (Nat×Bool)}
def Ok (P:Program) (a:Act) (op:Op) (ty:TypeId) (w:World) (v:Value):Prop :=
 ∀(dst:Option Tmp) (pos:String) (aft:Array Edge) (g:Option (Nat×Bool)),(execOp a.eval ⟨dst,op,ty,pos,aft,g⟩).run P w=.ok (.value v) w
abbrev Scalar (P:Program) (t:TypeId):Prop:=∀w,(isAgg t).run P w=.ok false w
abbrev AggT (P:Program) (t:TypeId):Prop:=∀w,(isAgg t).run P w=.ok true w
abbrev Under (P:Program) (t:TypeId) (d:TypeDesc):Prop:=∀w,(underlying t).run P w=.ok d w
abbrev SizeT (P:Program) (t:TypeId) (k:Nat):Prop:=∀w,(sizeOf t).run P w=.ok k w
abbrev ZeroT (P:Program) (t:TypeId) (v:Value):Prop:=∀w,(zeroValue t).run P w=.ok v w
theorem Ok.cast {op:Op} {v v':Value} (h:Ok P a op ty w v) (e:v=v'):Ok P a op ty w v':=e▸h
theorem yZ {x:Operand} {v:Value} (J:EnvR n E D a) (b:ev E x=some v):Ok P a (.move x) ty w v:=fun _ _ _ _=>by
 simp only [execOp,J.ev b];rfl
theorem jE {x:Operand} {v:Value} (J:EnvR n E D a) (b:ev E x=some v):Ok P a (.assign x) ty w v:=fun _ _ _ _=>by
 simp only [execOp,J.ev b];rfl
theorem z5r {c x y:Operand} {v:Value} {b:Bool} (J:EnvR n E D a) (d:ev E c=some (.bool b)) (e:ev E (if b then x else y)=some v):Ok P a (.pick c x y) ty w v:=fun _ _ _ _=>by
 cases b with
 | true=>simp only [execOp,J.ev d,J.ev (show ev E x=some v from e)];rfl
 | false=>simp only [execOp,J.ev d,J.ev (show ev E y=some v from e)];rfl
theorem jB {o:BinOp} {t t':TypeId} {x y:Operand} {vx vy v:Value} (J:EnvR n E D a) (c:ev E x=some vx) (d:ev E y=some vy)
  (b:(eqGuard o t x y vx vy).run P w=.ok () w) (hb:(binOp o t vx vy).run P w=.ok v w):Ok P a (.binOp o t x y t') ty w v:=fun _ _ _ _=>by
 simp only [execOp,J.ev c,J.ev d]
 simp [Sem.run_bind,b,hb,Result.andThen]
theorem tX {o:BinOp} {t t':TypeId} {x y:Operand} {k:IntKind} {i j:Int} {v:Value} (J:EnvR n E D a) (b:ev E x=some (.int k i)) (c:ev E y=some (.int k j))
  (hb:(binOp o t (.int k i) (.int k j)).run P w=.ok v w):Ok P a (.binOp o t x y t') ty w v :=
 jB J b c (by cases o <;> rfl) hb
theorem tW {t t':TypeId} {x y:Operand} {k:IntKind} {i j:Int} (z:Int) (J:EnvR n E D a) (b:ev E x=some (.int k i)) (c:ev E y=some (.int k j))
  (d:k.wrap (i+j)=z):Ok P a (.binOp .add t x y t') ty w (.int k z) :=
 tX J b c (by subst d;simp [binOp,Op.intArith])
theorem aM {i:Int} (h:-9223372036854775808<=i/\i<=9223372036854775807):IntKind.i64.wrap i=i:=by
 simp only [IntKind.wrap,IntKind.signed,IntKind.bits]
 simp
 omega
theorem xJ {t t':TypeId} {x y:Operand} {i j:Nat} (J:EnvR n E D a) (b:ev E x=some (.int .i64 (i:Int))) (c:ev E y=some (.int .i64 (j:Int)))
  (d:i+j<=9223372036854775807):Ok P a (.binOp .add t x y t') ty w (.int .i64 ((i+j:Nat):Int)) :=
 tW _ J b c (by rw [aM (by omega)];omega)
theorem z4f {t t':TypeId} {x y:Operand} {k:IntKind} {i j:Int} (z:Int) (J:EnvR n E D a) (b:ev E x=some (.int k i)) (c:ev E y=some (.int k j))
  (d:k.wrap (i - j)=z):Ok P a (.binOp .sub t x y t') ty w (.int k z) :=
 tX J b c (by subst d;simp [binOp,Op.intArith])
theorem y_mul {t t':TypeId} {x y:Operand} {k:IntKind} {i j:Int} (z:Int) (J:EnvR n E D a) (b:ev E x=some (.int k i)) (c:ev E y=some (.int k j))
  (d:k.wrap (i * j)=z):Ok P a (.binOp .mul t x y t') ty w (.int k z) :=
 tX J b c (by subst d;simp [binOp,Op.intArith])
theorem y_quo {t t':TypeId} {x y:Operand} {k:IntKind} {i j:Int} (z:Int) (J:EnvR n E D a) (c:ev E x=some (.int k i)) (d:ev E y=some (.int k j))
  (b:j≠0) (e:k.wrap (i.tdiv j)=z):Ok P a (.binOp .quo t x y t') ty w (.int k z) :=
 tX J c d (by subst e;simp [binOp,Op.intDiv,b])
theorem y_rem {t t':TypeId} {x y:Operand} {k:IntKind} {i j:Int} (z:Int) (J:EnvR n E D a) (c:ev E x=some (.int k i)) (d:ev E y=some (.int k j))
  (b:j≠0) (e:i.tmod j=z):Ok P a (.binOp .rem t x y t') ty w (.int k z) :=
 tX J c d (by subst e;simp [binOp,Op.intDiv,b])
theorem qL {t t':TypeId} {x y:Operand} {k:IntKind} {i j:Int} (b:Bool) (J:EnvR n E D a) (c:ev E x=some (.int k i)) (d:ev E y=some (.int k j))
  (hb:decide (i=j)=b):Ok P a (.binOp .eql t x y t') ty w (.bool b) :=
 tX J c d (by subst hb;simp [binOp,Op.intCmp];rfl)
theorem xA {t t':TypeId} {x y:Operand} {k:IntKind} {i j:Int} (b:Bool) (J:EnvR n E D a) (c:ev E x=some (.int k i)) (d:ev E y=some (.int k j))
  (hb:(!decide (i=j))=b):Ok P a (.binOp .neq t x y t') ty w (.bool b) :=
 tX J c d (by subst hb;simp [binOp,Op.intCmp];rfl)
theorem sK {t t':TypeId} {x y:Operand} {k:IntKind} {i j:Int} (b:Bool) (J:EnvR n E D a) (c:ev E x=some (.int k i)) (d:ev E y=some (.int k j))
  (hb:decide (i < j)=b):Ok P a (.binOp .lss t x y t') ty w (.bool b) :=
 tX J c d (by subst hb;simp [binOp,Op.intCmp])
theorem z6s {t t':TypeId} {x y:Operand} {k:IntKind} {i j:Int} (b:Bool) (J:EnvR n E D a) (c:ev E x=some (.int k i)) (d:ev E y=some (.int k j))
  (hb:decide (i<=j)=b):Ok P a (.binOp .leq t x y t') ty w (.bool b) :=
 tX J c d (by subst hb;simp [binOp,Op.intCmp])
theorem y3n {t t':TypeId} {x y:Operand} {k:IntKind} {i j:Int} (b:Bool) (J:EnvR n E D a) (c:ev E x=some (.int k i)) (d:ev E y=some (.int k j))
  (hb:decide (j < i)=b):Ok P a (.binOp .gtr t x y t') ty w (.bool b) :=
 tX J c d (by subst hb;simp [binOp,Op.intCmp])
theorem y7p {t t':TypeId} {x y:Operand} {k:IntKind} {i j:Int} (b:Bool) (J:EnvR n E D a) (c:ev E x=some (.int k i)) (d:ev E y=some (.int k j))
  (hb:decide (j<=i)=b):Ok P a (.binOp .geq t x y t') ty w (.bool b) :=
 tX J c d (by subst hb;simp [binOp,Op.intCmp])
theorem y2s (s t:ByteArray):(s.toList==t.toList)=decide (s=t):=by
 rw [Bool.eq_iff_iff];simp only [beq_iff_eq,decide_eq_true_eq,ByteArray.toList_eq];constructor
 ·intro h
  cases s;cases t;simp_all
 ·rintro rfl;rfl
theorem gF {t t':TypeId} {x y:Operand} {s u:ByteArray} (b:Bool) (J:EnvR n E D a) (c:ev E x=some (.string s)) (d:ev E y=some (.string u))
  (hb:decide (s=u)=b):Ok P a (.binOp .eql t x y t') ty w (.bool b) :=
 jB J c d rfl (by subst hb;simp [binOp,Op.stringOp,y2s])
theorem y3o {t t':TypeId} {x y:Operand} {s u:ByteArray} (b:Bool) (J:EnvR n E D a) (c:ev E x=some (.string s)) (d:ev E y=some (.string u))
  (hb:(!decide (s=u))=b):Ok P a (.binOp .neq t x y t') ty w (.bool b) :=
 jB J c d rfl (by subst hb;simp [binOp,Op.stringOp,y2s])
theorem j0h {t t':TypeId} {x y:Operand} {k:IntKind} {i j:Int} (J:EnvR n E D a) (b:ev E x=some (.int k i)) (c:ev E y=some (.int k j)):Ok P a (.binOp .lss t x y t') ty w (.bool (decide (i < j))):=sK _ J b c rfl
theorem y_leqD {t t':TypeId} {x y:Operand} {k:IntKind} {i j:Int} (J:EnvR n E D a) (b:ev E x=some (.int k i)) (c:ev E y=some (.int k j)):Ok P a (.binOp .leq t x y t') ty w (.bool (decide (i<=j))):=z6s _ J b c rfl
theorem y_geqD {t t':TypeId} {x y:Operand} {k:IntKind} {i j:Int} (J:EnvR n E D a) (b:ev E x=some (.int k i)) (c:ev E y=some (.int k j)):Ok P a (.binOp .geq t x y t') ty w (.bool (decide (j<=i))):=y7p _ J b c rfl
theorem vQ {t t':TypeId} {x y:Operand} {k:IntKind} {i j:Int} (J:EnvR n E D a) (b:ev E x=some (.int k i)) (c:ev E y=some (.int k j)):Ok P a (.binOp .eql t x y t') ty w (.bool (decide (i=j))):=qL _ J b c rfl
theorem y_lssN {t t':TypeId} {x y:Operand} {k:IntKind} {i j:Nat} (J:EnvR n E D a) (b:ev E x=some (.int k (i:Int))) (c:ev E y=some (.int k (j:Int))):Ok P a (.binOp .lss t x y t') ty w (.bool (decide (i < j))):=sK _ J b c (decide_eq_decide.2 Int.ofNat_lt)
theorem mZ {t t':TypeId} {x y:Operand} {k:IntKind} {i j:Nat} (J:EnvR n E D a) (b:ev E x=some (.int k (i:Int))) (c:ev E y=some (.int k (j:Int))):Ok P a (.binOp .leq t x y t') ty w (.bool (decide (i<=j))):=z6s _ J b c (decide_eq_decide.2 Int.ofNat_le)
theorem y_gtrN {t t':TypeId} {x y:Operand} {k:IntKind} {i j:Nat} (J:EnvR n E D a) (b:ev E x=some (.int k (i:Int))) (c:ev E y=some (.int k (j:Int))):Ok P a (.binOp .gtr t x y t') ty w (.bool (decide (j < i))):=y3n _ J b c (decide_eq_decide.2 Int.ofNat_lt)
theorem y_geqN {t t':TypeId} {x y:Operand} {k:IntKind} {i j:Nat} (J:EnvR n E D a) (b:ev E x=some (.int k (i:Int))) (c:ev E y=some (.int k (j:Int))):Ok P a (.binOp .geq t x y t') ty w (.bool (decide (j<=i))):=y7p _ J b c (decide_eq_decide.2 Int.ofNat_le)
theorem wE {t t':TypeId} {x y:Operand} {k:IntKind} {i j:Nat} (J:EnvR n E D a) (b:ev E x=some (.int k (i:Int))) (c:ev E y=some (.int k (j:Int))):Ok P a (.binOp .eql t x y t') ty w (.bool (decide (i=j))):=qL _ J b c (decide_eq_decide.2 (by omega))
theorem z4e {t t':TypeId} {x y:Operand} {s u:ByteArray} (J:EnvR n E D a) (b:ev E x=some (.string s)) (c:ev E y=some (.string u)):Ok P a (.binOp .eql t x y t') ty w (.bool (decide (s=u))):=gF _ J b c rfl
theorem j3l {t t':TypeId} {x y:Operand} {s u:ByteArray} (J:EnvR n E D a) (b:ev E x=some (.string s)) (c:ev E y=some (.string u)):Ok P a (.binOp .neq t x y t') ty w (.bool (!decide (s=u))):=y3o _ J b c rfl
theorem y_sadd {t t':TypeId} {x y:Operand} {s u:ByteArray} (J:EnvR n E D a) (b:ev E x=some (.string s)) (c:ev E y=some (.string u))
  (hb:s.size+u.size<=9223372036854775807):Ok P a (.binOp .add t x y t') ty w (.string (s++u)) :=
 jB J b c rfl (by
  have:¬(((s.size+u.size:Nat):Int) > IntKind.i64.max):=by simp [IntKind.max,IntKind.signed,IntKind.bits];omega
  simp only [binOp,Op.stringOp,if_neg this];rfl)
theorem z6v {x:Operand} {t:TypeId} {b:Bool} (J:EnvR n E D a) (c:ev E x=some (.bool b)):Ok P a (.unOp .not t x) ty w (.bool (!b)):=fun _ _ _ _=>by
 simp only [execOp,J.ev c];rfl
theorem xO {x:Operand} {i:Nat} {vs:List Value} {v:Value} (J:EnvR n E D a) (b:ev E x=some (.tuple vs.toArray)) (hi:vs[i]? = some v):Ok P a (.extract x i) ty w v:=fun _ _ _ _=>by
 simp only [execOp,J.ev b];simp [Instr.extract,hi,Sem.run_bind,Result.andThen]
theorem z1r {x:Operand} {p:Addr} (J:EnvR n E D a) (b:ev E x=some (.pointer (some p))):Ok P a (.nilCheck x) ty w (.pointer (some p)):=fun _ _ _ _=>by
 simp only [execOp,J.ev b];rfl
theorem z1q {fn:Fn} {fs cs:Array Operand} {vfs vcs:List Value} (J:EnvR n E D a) (c:evs E fs.toList=some vfs) (b:evs E cs.toList=some vcs) :
  Ok P a (.makeFunc fn fs cs) ty w (.func fn vfs.toArray vcs.toArray):=fun _ _ _ _=>by
 simp only [execOp,J.evsA c,J.evsA b];rfl
theorem yL {t:TypeId} {x:Operand} {v:Value} {d:TypeDesc} (J:EnvR n E D a) (e:ev E x=some v) (c:Under P t d) (b:∀ms,d≠.interface ms) :
  Ok P a (.makeInterface t x) ty w (.iface t v):=fun _ _ _ _=>by
 simp only [execOp,J.ev e];have:=c w;simp only [Instr.makeInterface,Sem.run_bind,this,Result.andThen];cases d <;> first | rfl | exact absurd rfl (b _)
def nth:List Value->Nat->Option Value
 | [],_=>none
 | v::_,0=>some v
 | _::l,i+1=>nth l i
def z0b (l:List Value):Nat->List Value
 | 0=>l
 | i+1=>(z0b l i).tail
def z0d:List Value->Nat->List Value
 | _,0=>[]
 | [],_+1=>[]
 | x::l,i+1=>x::z0d l i
theorem tJ:∀(l:List Value) (i:Nat),nth l i=l[i]?
 | [],_=>rfl
 | _::_,0=>rfl
 | _::l,i+1=>by simp only [nth,tJ l i,List.getElem?_cons_succ]
theorem tC (l:List Value):∀(i:Nat),z0b l i=l.drop i
 | 0=>rfl
 | i+1=>by simp [z0b,tC l i]
theorem tH:∀(l:List Value) (i:Nat),z0d l i=l.take i
 | l,0=>by cases l <;> rfl
 | [],_+1=>rfl
 | _::l,i+1=>by simp only [z0d,tH l i,List.take_succ_cons]
def z1b:List Value->List Value->List Value
 | [],cs=>cs
 | v::vs,[]=>v::vs
 | v::vs,_::cs=>v::z1b vs cs
theorem j2n:∀(vs cs:List Value),z1b vs cs=vs++cs.drop vs.length
 | [],cs=>by simp [z1b]
 | v::vs,[]=>by simp [z1b]
 | v::vs,_::cs=>by simp [z1b,j2n vs cs]
def jP:List Value->Nat->List Value->List Value
 | cs,0,vs=>z1b vs cs
 | [],_+1,vs=>vs
 | c::cs,i+1,vs=>c::jP cs i vs
theorem xN:∀(cs:List Value) (off:Nat) (vs:List Value),jP cs off vs=cs.take off++(vs++cs.drop (off+vs.length))
 | cs,0,vs=>by cases cs <;> simp [jP,j2n]
 | [],_+1,vs=>by simp [jP]
 | c::cs,i+1,vs=>by
  simp only [jP,xN cs i vs,List.take_succ_cons,List.cons_append];rw [show i+1+vs.length=(i+vs.length)+1 by omega,List.drop_succ_cons]
def ob (cs:List Value) (t:TypeId):Obj:=.cells cs.toArray t (0,0)
theorem Sees.cell (N:Sees Φ K w) {i b:Nat} {cs:List Value} {t:TypeId} (a:yU K i=some (.blk b (ob cs t))) (j:Nat):w.cell? ⟨b,j,none⟩=nth cs j:=by
 have:w.heap[b]? = some (ob cs t):=N.own _ (yR a)
 simp [World.cell?,this,ob,tJ]
theorem Sees.at (N:Sees Φ K w) {p:Addr} {cs:List Value} (d:At Φ p cs):∀j v,cs[j]? = some v->w.cell? (p.add j)=some v:=by
 intro j v h;obtain ⟨arr,T,fr,f,g⟩:=d.ex;have O:=d.spot;have c:=N.fz _ _ f;have a:=g j v h;cases p with
 | mk b o s=>
  simp only at O a c;subst O
  have e:(⟨b,o,none⟩:Addr).add j=⟨b,o+j,none⟩:=by
   unfold Addr.add;split
   ·subst_vars;rfl
   ·rfl
  rw [e]
  simp [World.cell?,c,a]
theorem yH (i:Nat) {x:Operand} {T:TypeId} {b off:Nat} {cs:List Value} {t:TypeId} {v:Value} (J:EnvR n E D a) (N:Sees Φ K w)
  (g:ev E x=some (.pointer (some ⟨b,off,none⟩))) (e:yU K i=some (.blk b (ob cs t))) (f:nth cs off=some v) (d:Scalar P T):Ok P a (.load T x) ty w v:=fun _ _ _ _=>by
 have c:=N.cell e off;rw [f] at c;simp only [execOp,J.ev g]
 simp [Instr.loadAt,Instr.sureAddr,loadVar,Sem.run_bind,d w,Result.andThen,load,Sem.run,c]
theorem qG (i:Nat) {x:Operand} {T:TypeId} {b off k:Nat} {cs vs:List Value} {t:TypeId} (J:EnvR n E D a) (N:Sees Φ K w)
  (p:ev E x=some (.pointer (some ⟨b,off,none⟩))) (o:yU K i=some (.blk b (ob cs t))) (l:AggT P T) (h:SizeT P T k) (g:z0d (z0b cs off) k=vs) (hl:vs.length=k) :
  Ok P a (.load T x) ty w (.agg vs.toArray):=fun _ _ _ _=>by
 have m:∀j v,vs[j]? = some v->w.cell? ((⟨b,off,none⟩:Addr).add j)=some v:=fun j v d=>by
  have c:=N.cell o (off+j);rw [tH,tC] at g;have e:j < k:=by rw [<- hl];exact (List.getElem?_eq_some_iff.1 d).1
  rw [<- g,List.getElem?_take_of_lt e,List.getElem?_drop] at d;rw [tJ,d] at c;unfold Addr.add;split
  ·subst_vars;simpa using c
  ·exact c
 have f:=run_loadCells_list (P:=P) (w:=w) ⟨b,off,none⟩ vs m;rw [hl] at f;simp only [execOp,J.ev p]
 simp [Instr.loadAt,Instr.sureAddr,loadVar,Sem.run_bind,l w,h w,Result.andThen,f]
theorem uT {x:Operand} {T:TypeId} {p:Addr} {cs:List Value} {v:Value} (j:Nat) (J:EnvR n E D a) (N:Sees Φ K w)
  (f:ev E x=some (.pointer (some (p.add j)))) (e:At Φ p cs) (b:nth cs j=some v) (d:Scalar P T):Ok P a (.load T x) ty w v:=fun _ _ _ _=>by
 rw [tJ] at b;have c:=N.at e j v b;simp only [execOp,J.ev f]
 simp [Instr.loadAt,Instr.sureAddr,loadVar,Sem.run_bind,d w,Result.andThen,load,Sem.run,c]
theorem add_zero (p:Addr):p.add 0=p:=by simp [Addr.add]
theorem add_add (p:Addr) (i j:Nat) (a:p.spot=none):(p.add i).add j=p.add (i+j):=by
 cases p with
 | mk b o s=>
  simp only at a;subst a;unfold Addr.add;by_cases hi:i=0 <;> by_cases c:j=0 <;> simp_all <;> omega
theorem pZ {x:Operand} {T:TypeId} {p:Addr} {cs:List Value} {v:Value} (J:EnvR n E D a) (N:Sees Φ K w)
  (e:ev E x=some (.pointer (some p))) (c:At Φ p cs) (d:nth cs 0=some v) (b:Scalar P T):Ok P a (.load T x) ty w v :=
 uT 0 J N (by rw [add_zero];exact e) c d b
theorem vM {x:Operand} {T:TypeId} {p:Addr} {k:Nat} {cs vs:List Value} (j:Nat) (J:EnvR n E D a) (N:Sees Φ K w)
  (l:ev E x=some (.pointer (some (p.add j)))) (d:At Φ p cs) (g:AggT P T) (f:SizeT P T k) (e:z0d (z0b cs j) k=vs) (hl:vs.length=k) :
  Ok P a (.load T x) ty w (.agg vs.toArray):=fun _ _ _ _=>by
 have h:∀i v,vs[i]? = some v->w.cell? ((p.add j).add i)=some v:=fun i v hi=>by
  rw [tH,tC] at e;have b:i < k:=by rw [<- hl];exact (List.getElem?_eq_some_iff.1 hi).1
  rw [<- e,List.getElem?_take_of_lt b,List.getElem?_drop] at hi;rw [add_add p j i d.spot];exact N.at d _ v hi
 have c:=run_loadCells_list (P:=P) (w:=w) (p.add j) vs h;rw [hl] at c;simp only [execOp,J.ev l]
 simp [Instr.loadAt,Instr.sureAddr,loadVar,Sem.run_bind,g w,f w,Result.andThen,c]
theorem tY {x:Operand} {T:TypeId} {p:Addr} {k:Nat} {cs:List Value} (J:EnvR n E D a) (N:Sees Φ K w)
  (e:ev E x=some (.pointer (some p))) (d:At Φ p cs) (c:AggT P T) (b:SizeT P T k) (hl:cs.length=k) :
  Ok P a (.load T x) ty w (.agg cs.toArray) :=
 vM 0 J N (by rw [add_zero];exact e) d c b (by rw [tH,tC,<- hl];simp) hl
def zH (P:Program) (s:TypeId) (f off:Nat):Prop:=∀(p:Addr) (w:World),(Instr.fieldAt s (.pointer (some p)) f).run P w=.ok (.pointer (some (p.add off))) w
theorem zD {s:TypeId} {fs:Array Field} {f off k:Nat} {fd:Field} (d:Under P s (.struct fs)) (a:fs[f]? = some fd) (O:SizeT P fd.type k) (b:k≠0) (c:fd.offset=off):zH P s f off:=fun p w=>by
 subst c
 simp [Instr.fieldAt,d w,a,Instr.sureAddr,fieldPlace,O w,b]
theorem aG {x:Operand} {s:TypeId} {f off:Nat} {p:Addr} (J:EnvR n E D a) (c:ev E x=some (.pointer (some p))) (b:zH P s f off) :
  Ok P a (.fieldAddr s x f) ty w (.pointer (some (p.add off))):=fun _ _ _ _=>by
 simp only [execOp,J.ev c]
 simp [Sem.run_bind,b p w,Result.andThen]
theorem qP {x:Operand} {s:TypeId} {f off b o z:Nat} (J:EnvR n E D a) (d:ev E x=some (.pointer (some ⟨b,o,none⟩))) (c:zH P s f off) (g:o+off=z) :
  Ok P a (.fieldAddr s x f) ty w (.pointer (some ⟨b,z,none⟩)):=by
 have h:=aG (P:=P) (ty:=ty) (w:=w) J d c
 have e:(⟨b,o,none⟩:Addr).add off=⟨b,z,none⟩:=by
  subst g;unfold Addr.add;split
  ·subst_vars;rfl
  ·rfl
 rwa [e] at h
theorem y3m {x:Operand} {s:TypeId} {f off j z:Nat} {p:Addr} {cs:List Value} (J:EnvR n E D a) (d:ev E x=some (.pointer (some (p.add j)))) (c:At Φ p cs) (b:zH P s f off) (e:j+off=z) :
  Ok P a (.fieldAddr s x f) ty w (.pointer (some (p.add z))):=by
 have h:=aG (P:=P) (ty:=ty) (w:=w) J d b;rw [add_add p j off c.spot,e] at h;exact h
theorem xT (i:Nat) {x ix:Operand} {t e:TypeId} {kk:IntKind} {p:Addr} {len cap k:Nat} (J:EnvR n E D a) (c:ev E x=some (.slice (some p) len cap))
  (hi:ev E ix=some (.int kk (i:Int))) (b:Under P t (.slice e)) (O:SizeT P e k) (hb:i < len) :
  Ok P a (.indexAddr t x ix) ty w (.pointer (some (p.add (i * k)))):=fun _ _ _ _=>by
 simp only [execOp,J.ev c,J.ev hi]
 simp [Instr.indexAt,asIntOf,Sem.run_bind,b w,O w,Result.andThen,hb]
theorem uS {x:Operand} {t:TypeId} {fs:Array Field} {i:Nat} {fd:Field} {cs:List Value} {v:Value} (e:Under P t (.struct fs)) (d:fs[i]? = some fd) (c:Scalar P fd.type)
  (J:EnvR n E D a) (f:ev E x=some (.agg cs.toArray)) (b:nth cs fd.offset=some v):Ok P a (.field t x i) ty w v:=fun _ _ _ _=>by
 rw [tJ] at b;simp only [execOp,J.ev f];have hv':cs.toArray[fd.offset]? = some v:=by simpa using b
 simp [Instr.field,Sem.run_bind,e w,d,asAgg,part,c w,Result.andThen,b]
theorem z6r (i:Nat) (c:UInt8) {x ix:Operand} {t:TypeId} {kk:IntKind} {s:ByteArray} (J:EnvR n E D a) (e:ev E x=some (.string s))
  (hi:ev E ix=some (.int kk (i:Int))) (d:Under P t .string) (b:s[i]? = some c):Ok P a (.index t x ix) ty w (.int .u8 c.toNat):=fun _ _ _ _=>by
 simp only [execOp,J.ev e,J.ev hi]
 simp [Instr.index,asIntOf,Sem.run_bind,d w,Result.andThen,b]
theorem aH {x:Operand} {t e:TypeId} {p:Option Addr} {len cap:Nat} (J:EnvR n E D a) (c:ev E x=some (.slice p len cap)) (b:Under P t (.slice e)) :
  Ok P a (.call { callee:=.builtin .len,args:=#[x],argTypes:=#[t] }) ty w (.int .i64 (len:Int)):=fun _ _ _ _=>by
 simp only [execOp,resolve]
 simp [Sem.run_bind,Result.andThen,invoke,builtin,J.ev c,Builtin.len_,b w,goInt]
theorem j7q {x:Operand} {t:TypeId} {s:ByteArray} (J:EnvR n E D a) (c:ev E x=some (.string s)) (b:Under P t .string) :
  Ok P a (.call { callee:=.builtin .len,args:=#[x],argTypes:=#[t] }) ty w (.int .i64 (s.size:Int)):=fun _ _ _ _=>by
 simp only [execOp,resolve]
 simp [Sem.run_bind,Result.andThen,invoke,builtin,J.ev c,Builtin.len_,b w,goInt]
theorem aI {x:Operand} {t:TypeId} {lo hi:Option Operand} {s:ByteArray} (l h:Nat) (J:EnvR n E D a) (f:ev E x=some (.string s)) (c:Under P t .string)
  (hl:match lo with | none=>l=0 | some o=>∃k,ev E o=some (.int k (l:Int))) (b:match hi with | none=>h=s.size | some o=>∃k,ev E o=some (.int k (h:Int))) (d:l<=h) (e:h<=s.size) :
  Ok P a (.slice t x lo hi none) ty w (.string (s.extract l h)):=fun _ _ _ _=>by
 simp only [execOp,J.ev f,Instr.sliceAt];cases lo <;> cases hi <;> simp only at hl b
 ·subst hl;subst b
  simp [Sem.run_bind,c w,Instr.slice,Instr.sliceBounds]
 ·obtain ⟨k,b⟩:=b;subst hl
  simp [Sem.run_bind,c w,Instr.slice,Instr.sliceBounds,J.ev b,Instr.sliceBound,asIntOf,e]
 ·obtain ⟨k,hl⟩:=hl;subst b
  simp [Sem.run_bind,c w,Instr.slice,Instr.sliceBounds,J.ev hl,Instr.sliceBound,asIntOf,d]
 ·obtain ⟨k,hl⟩:=hl;obtain ⟨k',b⟩:=b
  simp [Sem.run_bind,c w,Instr.slice,Instr.sliceBounds,J.ev hl,J.ev b,Instr.sliceBound,asIntOf,d,e]
variable {Kn:Value->World->Prop} {Qp:List PanicEntry->World->Prop} {op:Op} {v:Value} {d:Nat}
theorem pO (b:Ok P a op ty w v) (k:Kn v w):Oper.eff P ⟨dst,op,ty,pos,aft,g⟩ a w Kn Qp:=by
 unfold Oper.eff;rw [b];exact k
theorem wN {w:World} {o:Obj} {b:Nat} (hb:b < w.heap.size):({ w with heap:=w.heap.push o }:World).heap[b]? = w.heap[b]? := by
 simp only;rw [Array.getElem?_push_lt hb,<- Array.getElem?_eq_getElem hb]
theorem Mem.push (N:Mem Φ K w) (o:Obj):Mem Φ (.blk w.heap.size o::K) { w with heap:=w.heap.push o } :=
 N.more rfl rfl (fun b hb=>wN hb) (by simp [Res.sat]) (by simp [Res.foot])
theorem qW {T:TypeId} {z:Value} {cs:List Value} (N:Mem Φ K w) (d:ZeroT P T z) (c:z.cells.toList=cs)
  (k:∀b w',Mem Φ (.blk b (ob cs T)::K) w'->Kn (.pointer (some ⟨b,0,none⟩)) w'):Oper.eff P ⟨dst,.alloc T,ty,pos,aft,g⟩ a w Kn Qp:=by
 unfold Oper.eff
 have:(execOp a.eval ⟨dst,.alloc T,ty,pos,aft,g⟩).run P w=.ok (.value (.pointer (some ⟨w.heap.size,0,none⟩))) { w with heap:=w.heap.push (ob cs T) }:=by
  subst c
  simp [execOp,Instr.alloc,Sem.run_bind,d w,newVar,newRow,ob]
 rw [this];exact k _ _ (N.push _)
theorem eff_box {T:TypeId} {x:Operand} {v:Value} {cs:List Value} (J:EnvR n E D a) (N:Mem Φ K w) (d:ev E x=some v) (c:v.cells.toList=cs)
  (k:∀b w',Mem Φ (.blk b (ob cs T)::K) w'->Kn (.pointer (some ⟨b,0,none⟩)) w'):Oper.eff P ⟨dst,.box T x,ty,pos,aft,g⟩ a w Kn Qp:=by
 unfold Oper.eff
 have:(execOp a.eval ⟨dst,.box T x,ty,pos,aft,g⟩).run P w=.ok (.value (.pointer (some ⟨w.heap.size,0,none⟩))) { w with heap:=w.heap.push (ob cs T) }:=by
  subst c
  simp [execOp,Instr.box,Sem.run_bind,newVar,newRow,ob,J.ev d]
 rw [this];exact k _ _ (N.push _)
theorem zQ (i:Nat) {x y:Operand} {T T0:TypeId} {b off k:Nat} {v:Value} {cs vs:List Value} (J:EnvR n E D a) (N:Mem Φ K w)
  (r:ev E x=some (.pointer (some ⟨b,off,none⟩))) (s:ev E y=some v) (j:yU K i=some (.blk b (ob cs T0))) (d:v.cells.toList=vs) (o:SizeT P T k) (hl:vs.length=k)
  (m:vs.all Value.oneCell'=true) (p:Nat.ble (off+vs.length) cs.length=true)
  (kk:∀w',Mem Φ (wA K i (.blk b (ob (jP cs off vs) T0))) w'->Kn undef w'):Oper.eff P ⟨dst,.store T x y,ty,pos,aft,g⟩ a w Kn Qp:=by
 have hb:w.heap[b]? = some (.cells cs.toArray T0 (0,0)):=N.own _ (yR j);have hf':off+vs.length<=cs.length:=by simpa using p
 have l:=run_storeCells_at P b off T0 vs 0 cs.toArray w hb (by simpa using hf') (fun v q=>List.all_eq_true.1 m v q);have h:v.cells.size=k:=by rw [<- hl,<- d];simp
 unfold Oper.eff
 have:(execOp a.eval ⟨dst,.store T x y,ty,pos,aft,g⟩).run P w=.ok .skip (w.setRow b (jP cs off vs).toArray):=by
  simp only [execOp,J.ev r,J.ev s];simp only [Nat.add_zero,List.toList_toArray] at l
  simp [Instr.storeAt,Instr.sureAddr,storeVar,Sem.run_bind,o w,h,d,l,xN]
 rw [this];refine kk _ (N.upd j rfl rfl (fun c d f=>setRow_other w b c _ (fun e=>f (by simp [Res.foot,e]))) ?_ (.inl rfl));exact setRow_heap w b _ _ T0 _ hb
def built (P:Program) (t:TypeId) (parts:List (Nat×Value)) (len:Nat) (cs:List Value) (e:TypeId):Prop :=
 ∀w,(Instr.buildSlice t len parts.toArray).run P w=.ok (.slice (some ⟨w.heap.size,0,none⟩) len len) { w with heap:=w.heap.push (ob cs e) }
def evp (E:List (Nat×Value)):List (Nat×Operand)->Option (List (Nat×Value))
 | []=>some []
 | (i,x)::xs=>match ev E x,evp E xs with
  | some v,some vs=>some ((i,v)::vs)
  | _,_=>none
theorem EnvR.evp (h:EnvR n E D a):∀{xs:List (Nat×Operand)} {vs:List (Nat×Value)},Sw.evp E xs=some vs->xs.map (fun (i,x)=>(i,a.eval x))=vs
 | [],vs,b=>by simp [Sw.evp] at b;simp [b]
 | (i,x)::xs,vs,b=>by
  simp only [Sw.evp] at b;split at b
  ·rename_i v vs' c d
   simp only [Option.some.injEq] at b;subst b
   simp [h.ev c,EnvR.evp h d]
  ·cases b
theorem EnvR.evpA (h:EnvR n E D a) {xs:Array (Nat×Operand)} {vs:List (Nat×Value)} (b:Sw.evp E xs.toList=some vs):xs.map (fun (i,x)=>(i,a.eval x))=vs.toArray:=by
 apply Array.ext'
 simp [h.evp b]
theorem jV {t:TypeId} {ps:Array (Nat×Operand)} {vs:List (Nat×Value)} {cs:List Value} (J:EnvR n E D a) (b:evp E ps.toList=some vs) (hb:P.built t vs=some cs.toArray) :
  Ok P a (.build t ps) ty w (.agg cs.toArray):=fun _ _ _ _=>by
 simp only [execOp,J.evpA b]
 simp [Sem.run_bind,run_build w t vs.toArray cs.toArray (by simpa using hb),Result.andThen]
theorem qA {t e:TypeId} {len sz:Nat} {ps:Array (Nat×Operand)} {vs:List (Nat×Value)} {cs:List Value} (J:EnvR n E D a) (N:Mem Φ K w) (d:evp E ps.toList=some vs) (hb:built P t vs len cs e)
  (hl:cs.length=len * sz) (c:len<=maxLen) (k:∀v w',Mem Φ (.gs v e sz cs::K) w'->(∃p,v=.slice p len len)->Kn v w'):Oper.eff P ⟨dst,.buildSlice t len ps,ty,pos,aft,g⟩ a w Kn Qp:=by
 unfold Oper.eff
 have:(execOp a.eval ⟨dst,.buildSlice t len ps,ty,pos,aft,g⟩).run P w=.ok (.value (.slice (some ⟨w.heap.size,0,none⟩) len len)) { w with heap:=w.heap.push (ob cs e) }:=by
  simp only [execOp,J.evpA d]
  simp [Sem.run_bind,hb w]
 rw [this];refine k _ _ (N.more rfl rfl (fun b hb=>wN hb) ⟨len,hl,.inr ⟨w.heap.size,len,cs.toArray,rfl,Nat.zero_le _,by simp [ob],Nat.le_refl _,c,by simp [hl],by simp [<- hl]⟩⟩ (by simp [Res.foot,Value.ownBlock])) ⟨_,rfl⟩
theorem mQ {f:FuncId} {xs:Array Operand} {ts:Array TypeId} {vs:List Value} {R:Ending->World->Prop} (J:EnvR n E D a) (i:evs E xs.toList=some vs)
  (h:∀args w,(callFunc f args).run P w=.ok (.enter f args) w) (d:Calls P f vs.toArray w R)
  (k:∀v w',R (.returned v) w'->Kn v w') (kp:∀c w',R (.panicked c) w'->Qp c w') (ko:∀w',R .outgrown w'->False) :
  Oper.eff P ⟨dst,.call { callee:=.value (.func f),args:=xs,argTypes:=ts },ty,pos,aft,g⟩ a w Kn Qp:=by
 unfold Oper.eff
 have:(execOp a.eval ⟨dst,.call { callee:=.value (.func f),args:=xs,argTypes:=ts },ty,pos,aft,g⟩).run P w=.ok (.enter f vs.toArray) w:=by
  simp [execOp,resolve,J.evsA i,Act.eval,Deferred.ofValue,invoke,h]
 rw [this];exact d.mono fun e w' b=>by cases e <;> first | exact k _ _ b | exact kp _ _ b | exact ko _ b
theorem cF {f:FuncId} {y:Operand} {fs cs:List Value} {xs:Array Operand} {ts:Array TypeId} {vs:List Value} {R:Ending->World->Prop} (J:EnvR n E D a) (j:ev E y=some (.func (.func f) fs.toArray cs.toArray)) (i:evs E xs.toList=some vs)
  (h:∀args w,(callFunc f args).run P w=.ok (.enter f args) w) (d:Calls P f (fs++vs++cs).toArray w R)
  (k:∀v w',R (.returned v) w'->Kn v w') (kp:∀c w',R (.panicked c) w'->Qp c w') (ko:∀w',R .outgrown w'->False) :
  Oper.eff P ⟨dst,.call { callee:=.value y,args:=xs,argTypes:=ts },ty,pos,aft,g⟩ a w Kn Qp:=by
 unfold Oper.eff
 have:(execOp a.eval ⟨dst,.call { callee:=.value y,args:=xs,argTypes:=ts },ty,pos,aft,g⟩).run P w=.ok (.enter f (fs++vs++cs).toArray) w:=by
  simp only [execOp,resolve,J.evsA i,J.ev j]
  simp [Deferred.ofValue,invoke,h]
 rw [this];exact d.mono fun e w' b=>by cases e <;> first | exact k _ _ b | exact kp _ _ b | exact ko _ b
theorem xG {x:Operand} {t:TypeId} {v:Value} (J:EnvR n E D a) (c:ev E x=some (.iface t v)) (b:(Instr.panic (.iface t v)).run P w=.halt (.panic (.iface t v)) w)
  (kp:Qp [{ v:=.iface t v,recovered:=false }] w):Oper.eff P ⟨dst,.panic x,ty,pos,aft,g⟩ a w Kn Qp:=by
 unfold Oper.eff
 have:(execOp a.eval ⟨dst,.panic x,ty,pos,aft,g⟩).run P w=.halt (.panic (.iface t v)) w:=by
  simp [execOp,J.ev c,b]
 rw [this];exact kp
section
variable {ops:Array Oper} {rest:List Oper} {Q:Exit->Act->World->Prop}
theorem st {o:Oper} (J:EnvR n E D a) (g:o.dst=some d) (b:Nat.blt d n=true) (i:o.guard=none)
  (h:Oper.eff P o a w (fun v w'=>∀a,EnvR n ((d,v)::E) D a->wpList P ops Q rest a w') (fun c w'=>∀a,a.defers=D->Q (.panic c) a w')):wpList P ops Q (o::rest) a w:=by
 refine wpList_plain i fun L e=>hY (xE h (fun v w' j=>e _ _ ?_) (fun c w' f=>f _ J.defs));rw [g];exact j _ (J.put b)
theorem st0 {o:Oper} (J:EnvR n E D a) (e:o.dst=none) (f:o.guard=none)
  (h:Oper.eff P o a w (fun _ w'=>∀a,EnvR n E D a->wpList P ops Q rest a w') (fun c w'=>∀a,a.defers=D->Q (.panic c) a w')):wpList P ops Q (o::rest) a w:=by
 refine wpList_plain f fun L b=>hY (xE h (fun v w' g=>b _ _ ?_) (fun c w' d=>d _ J.defs));rw [e];exact g _ J.put_none
theorem xP (J:EnvR n E D a) (c:Ok P a op ty w v) (b:Nat.blt d n=true) (k:∀a,EnvR n ((d,v)::E) D a->wpList P ops Q rest a w) :
  wpList P ops Q (⟨some d,op,ty,pos,aft,none⟩::rest) a w :=
 st J rfl b rfl (pO c k)
theorem j0j (J:EnvR n E D a) {j t:Nat} {b:Bool} (c:ops[j]?.bind (·.dst)=some t) (d:get E t=some (.bool b)):yielded ops a.tmps j=some b:=by
 simp [yielded,c,J.env t _ d]
theorem pY (J:EnvR n E D a) {o:Oper} {j t:Nat} {b:Bool} (c:o.guard=some (j,b)) (d:ops[j]?.bind (·.dst)=some t) (e:get E t=some (.bool b)):Region.wanted o (yielded ops a.tmps)=true:=by
 simp [Region.wanted,c,j0j J d e]
def y9c:Value->Bool->Bool
 | .bool c,b=>c != b
 | _,_=>true
theorem uR (J:EnvR n E D a) {o:Oper} {j t:Nat} {b:Bool} {v:Value} (e:o.guard=some (j,b)) (f:ops[j]?.bind (·.dst)=some t) (g:get E t=some v) (hb:y9c v b=true):Region.wanted o (yielded ops a.tmps)=false:=by
 have h:yielded ops a.tmps j≠some b:=by
  simp only [yielded,f,Option.bind_some,J.env t _ g];cases v <;> simp_all [y9c]
 cases d:yielded ops a.tmps j with
 | none=>simp [Region.wanted,e,d]
 | some c=>rw [d] at h;simp only [ne_eq,Option.some.injEq] at h;simp [Region.wanted,e,d,h]
theorem g_no {o:Oper} {j t:Nat} {b:Bool} (J:EnvR n E D a) (e:o.dst=some d) (f:o.guard=some (j,b)) (c:Nat.blt d n=true) (g:ops[j]?.bind (·.dst)=some t) (h:get E t=some v) (hb:y9c v b=true)
  (k:∀a,EnvR n ((d,undef)::E) D a->wpList P ops Q rest a w):wpList P ops Q (o::rest) a w:=by
 unfold wpList;rw [if_neg (by rw [uR J f g h hb];simp),e];exact k _ (J.put c)
theorem g_yes {o:Oper} {j t:Nat} {b:Bool} (J:EnvR n E D a) (k:o.dst=some d) (l:o.guard=some (j,b)) (e:Nat.blt d n=true) (m:ops[j]?.bind (·.dst)=some t) (f:get E t=some (.bool b))
  (h:Oper.eff P o a w (fun v w'=>∀a,EnvR n ((d,v)::E) D a->wpList P ops Q rest a w') (fun c w'=>∀a,a.defers=D->Q (.panic c) a w')):wpList P ops Q (o::rest) a w:=by
 refine wpList_step fun L g=>?_;rw [if_pos (pY J l m f)];refine hY (xE h (fun v w' f=>g _ _ ?_) (fun c w' i=>i _ J.defs));rw [k];exact f _ (J.put e)
theorem g_yes0 {o:Oper} {j t:Nat} {b:Bool} (J:EnvR n E D a) (g:o.dst=none) (i:o.guard=some (j,b)) (k:ops[j]?.bind (·.dst)=some t) (d:get E t=some (.bool b))
  (h:Oper.eff P o a w (fun _ w'=>∀a,EnvR n E D a->wpList P ops Q rest a w') (fun c w'=>∀a,a.defers=D->Q (.panic c) a w')):wpList P ops Q (o::rest) a w:=by
 refine wpList_step fun L e=>?_;rw [if_pos (pY J i k d)];refine hY (xE h (fun v w' d=>e _ _ ?_) (fun c w' f=>f _ J.defs));rw [g];exact d _ J.put_none
end
end Go.Sw

namespace Go.Sw
variable {P:Program} {n:Nat} {E:List (Nat×Value)} {D:List Deferred} {a:Act} {Φ Ψ:Fz} {K:List Res} {w:World}
def aT:Nat->List Value->List (Nat×Value)
 | _,[]=>[]
 | i,v::vs=>(i,v)::aT (i+1) vs
theorem nR:∀(vs:List Value) (i t:Nat) (v:Value),get (aT i vs) t=some v->i<=t/\vs[t - i]? = some v
 | [],_,_,_,h=>by simp [aT,get] at h
 | x::vs,i,t,v,h=>by
  simp only [aT] at h;rcases xW h with ⟨rfl,rfl⟩ | ⟨b,h⟩
  ·simp
  ·obtain ⟨c,a⟩:=nR vs (i+1) t v h
   refine ⟨by omega,?_⟩;have:t - i=(t - (i+1))+1:=by omega
   rw [this];simpa using a
theorem enter {f:FuncId} {fn:Func} {c:Code} {vs:List Value} {R:Ending->World->Prop} (g:P.funcs[f]? = some fn) (hb:fn.body=some c) (i:fn.ntmps=n) (hl:Nat.ble vs.length n=true)
  (k:∀Q:Exit->Act->World->Prop,(∀e a w,bodyPost P fn R e a w->Q e a w)->∀a,EnvR n (aT 0 vs) [] a->c.wp P Q a w):Calls P f vs.toArray w R:=by
 have hl':vs.length<=n:=by simpa using hl
 refine calls_of_wp g hb (k _ (fun _ _ _ h=>h) _ ⟨by simp [i];omega,fun t v j=>?_,rfl⟩);obtain ⟨_,b⟩:=nR vs 0 t v j;simp only [Nat.sub_zero] at b;have d:t < vs.length:=(List.getElem?_eq_some_iff.1 b).1;simp only [List.getElem?_toArray,Array.getElem?_append,List.size_toArray,d,↓reduceIte];exact b
theorem ret0 {fn:Func} {R:Ending->World->Prop} (J:EnvR n E [] a) (b:fn.results=#[]) (h:R (.returned (.tuple #[])) w):bodyPost P fn R .ret a w :=
 ⟨J.defs,.tuple #[],by simp [results,b],h⟩
theorem ret1 {fn:Func} {R:Ending->World->Prop} {t:Nat} {v:Value} (J:EnvR n E [] a) (b:fn.results=#[.tmp t]) (c:get E t=some v) (h:R (.returned v) w):bodyPost P fn R .ret a w :=
 ⟨J.defs,v,by simp [results,b,Array.getD_eq_getD_getElem?,J.env t v c],h⟩
theorem ret2 {fn:Func} {R:Ending->World->Prop} {t u:Nat} {v x:Value} (J:EnvR n E [] a) (b:fn.results=#[.tmp t,.tmp u]) (c:get E t=some v) (d:get E u=some x)
  (h:R (.returned (.tuple #[v,x])) w):bodyPost P fn R .ret a w :=
 ⟨J.defs,.tuple #[v,x],by simp [results,b,Array.getD_eq_getD_getElem?,J.env t v c,J.env u x d],h⟩
theorem ret3 {fn:Func} {R:Ending->World->Prop} {t u s:Nat} {v x y:Value} (J:EnvR n E [] a) (b:fn.results=#[.tmp t,.tmp u,.tmp s]) (c:get E t=some v) (d:get E u=some x) (e:get E s=some y)
  (h:R (.returned (.tuple #[v,x,y])) w):bodyPost P fn R .ret a w :=
 ⟨J.defs,.tuple #[v,x,y],by simp [results,b,Array.getD_eq_getD_getElem?,J.env t v c,J.env u x d,J.env s y e],h⟩
variable {Q:Exit->Act->World->Prop}
theorem sq {x y:Code} (h:∀L:Act->World->Prop,(∀a w,y.wp P Q a w->L a w)->x.wp P (Exit.then L Q) a w):(Code.seq x y).wp P Q a w:=wp_seq_k h
theorem if_t {c:Operand} {x y:Code} (J:EnvR n E D a) (b:ev E c=some (.bool true)) (h:x.wp P Q a w):(Code.cond c x y).wp P Q a w:=wp_cond_true (J.ev b) h
theorem if_f {c:Operand} {x y:Code} (J:EnvR n E D a) (b:ev E c=some (.bool false)) (h:y.wp P Q a w):(Code.cond c x y).wp P Q a w:=wp_cond_false (J.ev b) h
theorem loop {c:Code} {σ:Type} (μ:σ->Nat) (I:σ->Act->World->Prop) (s0:σ) (d:I s0 a w)
  (hb:∀s a w,I s a w->∀L:Act->World->Prop,(∀s' a w,μ s' < μ s->I s' a w->L a w)->c.wp P (Exit.then L Q) a w):(Code.loop c).wp P Q a w:=by
 refine wp_loop_ghost (fun m a w=>∃s,μ s=m/\I s a w) (μ s0) ⟨s0,rfl,d⟩ ?_;rintro m a w ⟨s,rfl,O⟩;exact hb s a w O _ (fun s' a w b e=>⟨μ s',b,s',rfl,e⟩)
def Row (Φ:Fz) (v:Value) (k:Nat) (cs:List Value):Prop :=
 (v=.slice none 0 0/\cs=[])∨∃q m c,v=.slice (some q) m c/\cs.length=m * k/\m<=maxLen/\(cs≠[]->At Φ q cs)
theorem Row.mono {v:Value} {k:Nat} {cs:List Value} (h:Row Φ v k cs) (hl:Φ.Le Ψ):Row Ψ v k cs:=by
 rcases h with h | ⟨q,m,c,a,b,d,e⟩
 ·exact .inl h
 ·exact .inr ⟨q,m,c,a,b,d,fun h=>(e h).mono hl⟩
theorem Row.nil (k:Nat):Row Φ (.slice none 0 0) k []:=.inl ⟨rfl,rfl⟩
def Chunks {α:Type} (R:List Value->α->Prop) (k:Nat):List Value->List α->Prop
 | cs,[]=>cs=[]
 | cs,x::xs=>∃c rest,cs=c++rest/\c.length=k/\R c x/\Chunks R k rest xs
section
variable {α:Type} {R:List Value->α->Prop} {k:Nat}
theorem Chunks.length:∀{xs:List α} {cs:List Value},Chunks R k cs xs->cs.length=xs.length * k
 | [],cs,h=>by simp [Chunks] at h;simp [h]
 | x::xs,cs,⟨c,rest,a,b,_,d⟩=>by
  subst a;rw [List.length_append,Chunks.length d,b,List.length_cons,Nat.succ_mul];omega
theorem Chunks.mono {R':List Value->α->Prop} (a:∀c x,R c x->R' c x):∀{xs:List α} {cs:List Value},Chunks R k cs xs->Chunks R' k cs xs
 | [],_,h=>h
 | _::_,_,⟨c,rest,b,d,e,f⟩=>⟨c,rest,b,d,a _ _ e,f.mono a⟩
theorem Chunks.snoc {c:List Value} {x:α} (a:c.length=k) (b:R c x):∀{xs:List α} {cs:List Value},Chunks R k cs xs->Chunks R k (cs++c) (xs++[x])
 | [],cs,h=>by
  simp only [Chunks] at h;subst h;exact ⟨c,[],by simp,a,b,rfl⟩
 | y::ys,cs,⟨d,rest,e,f,g,i⟩=>⟨d,rest++c,by rw [e,List.append_assoc],f,g,i.snoc a b⟩
theorem Chunks.append:∀{xs ys:List α} {cs ds:List Value},Chunks R k cs xs->Chunks R k ds ys->Chunks R k (cs++ds) (xs++ys)
 | [],ys,cs,ds,h,h'=>by simp only [Chunks] at h;subst h;simpa using h'
 | x::xs,ys,cs,ds,⟨c,rest,a,b,d,e⟩,h'=>⟨c,rest++ds,by rw [a,List.append_assoc],b,d,e.append h'⟩
theorem Chunks.get:∀{xs:List α} {cs:List Value} {i:Nat} {x:α},Chunks R k cs xs->xs[i]? = some x->∃c,c.length=k/\R c x/\∀j v,c[j]? = some v->cs[i * k+j]? = some v
 | [],_,_,_,_,a=>by simp at a
 | y::ys,cs,0,x,⟨c,rest,g,b,l,m⟩,a=>by
  simp only [List.getElem?_cons_zero,Option.some.injEq] at a;subst a;refine ⟨c,b,l,fun j v f=>?_⟩;have h:j < c.length:=(List.getElem?_eq_some_iff.1 f).1;rw [g,Nat.zero_mul,Nat.zero_add,List.getElem?_append_left h];exact f
 | y::ys,cs,i+1,x,⟨c,rest,g,b,l,m⟩,a=>by
  simp only [List.getElem?_cons_succ] at a;obtain ⟨d,n,e2,e3⟩:=Chunks.get m a;refine ⟨d,n,e2,fun j v f=>?_⟩;have:=e3 j v f;rw [g,List.getElem?_append_right (by rw [b,Nat.succ_mul];omega)];have e:(i+1) * k+j - c.length=i * k+j:=by rw [b,Nat.succ_mul];omega
  rw [e];exact this
theorem Chunks.nil_iff {cs:List Value} {xs:List α} (h:Chunks R k cs xs) (a:0 < k):cs=[]↔xs=[]:=by
 cases xs with
 | nil=>simpa [Chunks] using h
 | cons x xs=>
  have:=h.length;constructor
  ·rintro rfl;rw [List.length_cons,Nat.succ_mul] at this;simp at this;omega
  ·intro e;cases e
end
def SliceOf {α:Type} (R:Fz->List Value->α->Prop) (Φ:Fz) (k:Nat) (v:Value) (xs:List α):Prop:=∃cs,Row Φ v k cs/\Chunks (R Φ) k cs xs
section
variable {α:Type} {R:Fz->List Value->α->Prop} {k:Nat} {v:Value} {xs:List α}
theorem SliceOf.mono (d:∀Φ Ψ c x,Φ.Le Ψ->R Φ c x->R Ψ c x) (h:SliceOf R Φ k v xs) (hl:Φ.Le Ψ):SliceOf R Ψ k v xs :=
 let ⟨cs,a,b⟩:=h;⟨cs,a.mono hl,b.mono fun c x e=>d _ _ _ _ hl e⟩
theorem SliceOf.nil (k:Nat):SliceOf R Φ k (.slice none 0 0) []:=⟨[],Row.nil k,rfl⟩
theorem SliceOf.form (h:SliceOf R Φ k v xs) (b:0 < k):∃p c,v=.slice p xs.length c/\xs.length<=9223372036854775807/\(xs≠[]->∃q,p=some q):=by
 obtain ⟨cs,d,a⟩:=h;rcases d with ⟨rfl,rfl⟩ | ⟨q,m,c,rfl,hl,N,e⟩
 ·have:=(a.nil_iff b).1 rfl
  subst this;exact ⟨none,0,rfl,by simp,fun h=>absurd rfl h⟩
 ·have:=a.length
  have:m=xs.length:=Nat.eq_of_mul_eq_mul_right b (by rw [<- hl,this]);subst this;exact ⟨some q,c,rfl,by simpa [maxLen] using N,fun _=>⟨q,rfl⟩⟩
theorem At.sub {p:Addr} {cs ds:List Value} {o:Nat} (h:At Φ p cs) (d:∀j v,ds[j]? = some v->cs[o+j]? = some v):At Φ (p.add o) ds:=by
 obtain ⟨arr,T,fr,a,c⟩:=h.ex;have O:=h.spot;cases p with
 | mk b f s=>
  simp only at O;subst O
  have e:(⟨b,f,none⟩:Addr).add o=⟨b,f+o,none⟩:=by
   unfold Addr.add;split
   ·subst_vars;rfl
   ·rfl
  rw [e];exact ⟨rfl,arr,T,fr,a,fun j v g=>by simpa [Nat.add_assoc] using c (o+j) v (d j v g)⟩
theorem SliceOf.elem {q:Addr} {m c i:Nat} {x:α} (h:SliceOf R Φ k (.slice (some q) m c) xs) (f:xs[i]? = some x) (n:0 < k:=by decide):∃cs,cs.length=k/\At Φ (q.add (i * k)) cs/\R Φ cs x:=by
 obtain ⟨cs,l,g⟩:=h;rcases l with ⟨h,_⟩ | ⟨q',m',c',J,hl,N,a⟩
 ·cases h
 ·simp only [Value.slice.injEq,Option.some.injEq] at J
  obtain ⟨rfl,rfl,rfl⟩:=J;obtain ⟨d,j,e2,e3⟩:=g.get f;have b:cs≠[]:=fun e=>by rw [(g.nil_iff n).1 e] at f;simp at f
  exact ⟨d,j,(a b).sub e3,e2⟩
end
theorem Mem.freezeRow {v:Value} {T:TypeId} {k i:Nat} {cs:List Value} (N:Mem Φ K w) (e:yU K i=some (.gs v T k cs)):∃Ψ,Φ.Le Ψ/\Mem Ψ (cZ K i) w/\Row Ψ v k cs:=by
 have h:=N.pull e;obtain ⟨m,hl,f⟩:=N.own _ (yR e);rcases f with ⟨rfl,rfl⟩ | ⟨b,cap,cur,rfl,_,n,g,d,l,a⟩
 ·exact ⟨Φ,Fz.Le.refl Φ,h.tail,.inl ⟨rfl,List.eq_nil_of_length_eq_zero (by simpa using hl)⟩⟩
 ·refine ⟨_,Fz.le_add (h.no rfl) _,h.freezeHead (b:=b) rfl n,.inr ⟨_,m,cap,rfl,hl,Nat.le_trans g d,fun _=>⟨rfl,cur,T,(0,0),by simp [Fz.add],fun j v c=>?_⟩⟩⟩
  rw [<- a,List.getElem?_take] at c;split at c
  ·simpa using c
  ·cases c
theorem Mem.freezeBlk {b i:Nat} {cs:List Value} {T:TypeId} (N:Mem Φ K w) (a:yU K i=some (.blk b (ob cs T))):∃Ψ,Φ.Le Ψ/\Mem Ψ (cZ K i) w/\At Ψ ⟨b,0,none⟩ cs:=by
 have h:=N.pull a;have d:w.heap[b]? = some (ob cs T):=N.own _ (yR a);exact ⟨_,Fz.le_add (h.no rfl) _,h.freezeHead (b:=b) rfl d,rfl,cs.toArray,T,(0,0),by simp [Fz.add,ob],fun j v c=>by simpa using c⟩
theorem Sees.gsForm {v:Value} {T:TypeId} {k i:Nat} {cs:List Value} (N:Sees Φ K w) (f:yU K i=some (.gs v T k cs)):∃p m c,v=.slice p m c/\cs.length=m * k/\m<=maxLen:=by
 obtain ⟨m,hl,d⟩:=N.own _ (yR f);rcases d with ⟨rfl,rfl⟩ | ⟨b,cap,cur,rfl,_,_,e,a,_⟩
 ·exact ⟨none,0,0,rfl,hl,Nat.zero_le _⟩
 ·exact ⟨_,m,cap,rfl,hl,Nat.le_trans e a⟩
theorem Sees.gsCells {v:Value} {T:TypeId} {k i:Nat} {cs:List Value} (N:Sees Φ K w) (a:yU K i=some (.gs v T k cs)):v.cells.toList=[v]:=by
 obtain ⟨p,m,c,rfl,_⟩:=N.gsForm a;rfl
theorem Sees.gsOne {v:Value} {T:TypeId} {k i:Nat} {cs:List Value} (N:Sees Φ K w) (a:yU K i=some (.gs v T k cs)):[v].all Value.oneCell'=true:=by
 obtain ⟨p,m,c,rfl,_⟩:=N.gsForm a;rfl
variable {Kn:Value->World->Prop} {Qp:List PanicEntry->World->Prop} {dst:Option Tmp} {ty:TypeId} {pos:String} {aft:Array Edge} {g:Option (Nat×Bool)}
structure RowT (P:Program) (t e:TypeId) (size bytes:Nat):Prop where
 under:P.underlying t=some (.slice e)
 info:∃i z,P.info? e=some i/\i.zero=some z/\i.size=size/\i.bytes=bytes/\z.cells.size=size
 pos:0 < size
 bpos:0 < bytes
def y4q (w:World) (v:Value) (k:Nat) (cs:List Value):Prop :=
 (v=.slice none 0 0/\cs=[])∨∃q m c,v=.slice (some q) m c/\cs.length=m * k/\∀j u,cs[j]? = some u->w.cell? (q.add j)=some u
theorem Row.rowIn {v:Value} {k:Nat} {cs:List Value} (h:Row Φ v k cs) (N:Sees Φ K w):y4q w v k cs:=by
 rcases h with h | ⟨q,m,c,b,d,_,f⟩
 ·exact .inl h
 ·exact .inr ⟨q,m,c,b,d,fun j u a=>N.at (f fun e=>by rw [e] at a;simp at a) j u a⟩
theorem Sees.rowIn {v:Value} {T:TypeId} {k i:Nat} {cs:List Value} (N:Sees Φ K w) (c:yU K i=some (.gs v T k cs)):y4q w v k cs:=by
 obtain ⟨m,a⟩:=N.own _ (yR c);rcases a.2 with ⟨rfl,rfl⟩ | ⟨b,cap,cur,rfl,_⟩
 ·exact .inl ⟨rfl,List.eq_nil_of_length_eq_zero (by simpa using a.1)⟩
 ·exact .inr ⟨_,m,cap,rfl,a.1,a.cells (g:=b) rfl⟩
theorem vZ (i:Nat) {s x:Operand} {t e:TypeId} {size bytes:Nat} {v vx:Value} {xs news:List Value} (A:RowT P t e size bytes) (J:EnvR n E D a) (N:Mem Φ K w)
  (O:ev E s=some v) (T:yU K i=some (.gs v e size xs)) (hx:ev E x=some vx) (M:y4q w vx size news) (L:news.all Value.oneCell'=true)
  (hb:∀n m,xs.length=n * size->news.length=m * size->(n+m) * bytes<=140737488355328)
  (k:∀v' w',Mem Φ (wA K i (.gs v' e size (xs++news))) w'->Kn v' w') :
  Oper.eff P ⟨dst,.call { callee:=.builtin .append,args:=#[s,x],argTypes:=#[t,t] },ty,pos,aft,g⟩ a w Kn Qp:=by
 obtain ⟨inf,z,hi,V,l,G,S⟩:=A.info;obtain ⟨nn,f⟩:=N.own _ (yR T);have W:=A.pos;have R:xs.length=nn * size:=f.1
 have o:∀v' w',(Builtin.append_ #[t,t] ty #[v,vx]).run P w=.ok v' w'->Kn v' w' ->
   Oper.eff P ⟨dst,.call { callee:=.builtin .append,args:=#[s,x],argTypes:=#[t,t] },ty,pos,aft,g⟩ a w Kn Qp:=by
  intro v' w' d Y;unfold Oper.eff
  have:(execOp a.eval ⟨dst,.call { callee:=.builtin .append,args:=#[s,x],argTypes:=#[t,t] },ty,pos,aft,g⟩).run P w=.ok (.value v') w':=by
   simp only [execOp,resolve,invoke,builtin,Sem.run_bind,Sem.run_pure,Result.andThen_ok,List.map_toArray,List.map_cons,List.map_nil,J.ev O,J.ev hx,d]
  rw [this];exact Y
 rcases M with ⟨rfl,rfl⟩ | ⟨q,m',c,rfl,hl,B⟩
 ·
  have r:∃p nn cap,v=.slice p nn cap/\nn<=cap:=by
   rcases f.2 with ⟨rfl,rfl⟩ | ⟨b,cap,cur,rfl,_,_,H,_⟩
   ·exact ⟨none,0,0,rfl,Nat.le_refl _⟩
   ·exact ⟨_,nn,cap,rfl,H⟩
  obtain ⟨p,nn',cap,rfl,H⟩:=r;refine o (.slice p nn' cap) w ?_ (k _ _ ?_)
  ·cases p with
   | none=>simp [Builtin.append_,run_underlying A.under,sizeOf,typeInfo,hi,Builtin.lenOf,Builtin.firstCells,H]
   | some q=>simp [Builtin.append_,run_underlying A.under,sizeOf,typeInfo,hi,Builtin.lenOf,Builtin.firstCells,H,storeCells]
  ·rw [List.append_nil]
   exact N.upd T rfl rfl (fun _ _ _=>rfl) ⟨nn,f⟩ (.inl rfl)
 ·have C:(nn+m') * bytes<=140737488355328:=hb nn m' R hl
  have F:nn+m'<=Go.maxLen:=by
   have:=Nat.le_trans (Nat.le_mul_of_pos_right (nn+m') A.bpos) C;simp only [Go.maxLen];omega
  have hsmall:nn+m'<=9223372036854775807:=by simp only [Go.maxLen] at F;omega
  rcases f.2 with ⟨rfl,rfl⟩ | ⟨b,cap,cur,rfl,_,hg,H,Z,U,_⟩
  ·obtain ⟨v',w',d,ho',h,_⟩:=run_append_own (P:=P) w w.heap.size t ty e inf z size bytes A.under hi V l G S W (.slice none 0 0) 0 xs ⟨f.1,.inl ⟨rfl,rfl⟩⟩ q m' c news hl B (fun u Q=>List.all_eq_true.1 L u Q) F C (Nat.le_refl _)
   refine o v' w' d (k _ _ (N.upd T h.os h.output (fun b hb I=>h.block b hb I) ⟨0+m',?_⟩ (.inr fun b hb=>(ho'.lt b hb).1)));exact ⟨ho'.1,ho'.2.imp id fun ⟨g,cap,cur,L,_,X⟩=>⟨g,cap,cur,L,Nat.zero_le _,X⟩⟩
  ·obtain ⟨v',w',d,ho',h,_⟩:=run_append_own (P:=P) w 0 t ty e inf z size bytes A.under hi V l G S W _ nn xs f q m' c news hl B (fun u Q=>List.all_eq_true.1 L u Q) F C (Nat.zero_le _)
   refine o v' w' d (k _ _ (N.upd T h.os h.output (fun b hb I=>h.block b hb I) ⟨nn+m',ho'⟩ ?_));by_cases y:nn+m'<=cap
   ·have r:nn * inf.size+news.length<=cur.size:=by rw [hl,U,l,<- Nat.add_mul];exact Nat.mul_le_mul_right _ y
    have M:=run_append_room (P:=P) w t ty e inf A.under hi b nn cap cur hg q m' c news (by rw [l];exact hl) B (fun u Q=>List.all_eq_true.1 L u Q) y r;rw [M] at d;cases d;exact .inl rfl
   ·have holds:∀j u,xs[j]? = some u->w.cell? ((⟨b,0,none⟩:Addr).add j)=some u:=f.cells (g:=b) rfl
    have M:=run_append_grow (P:=P) w t ty e inf z A.under hi V ⟨b,0,none⟩ nn cap xs (by rw [l];exact R) holds q m' c news (by rw [l];exact hl) B (by omega) (by omega) (by rw [G];exact growslice_fits (by omega) C);rw [M] at d;cases d;exact .inr fun c H=>by simp [Res.foot,Value.ownBlock] at H;omega
theorem wX (i:Nat) {s x:Operand} {t e:TypeId} {size bytes:Nat} {v vx:Value} {xs news:List Value} (b:RowT P t e size bytes) (J:EnvR n E D a) (N:Mem Φ K w)
  (O:ev E s=some v) (d:yU K i=some (.gs v e size xs)) (j:ev E x=some vx) (h:y4q w vx size news) (c:news.all Value.oneCell'=true)
  (hb:(xs.length+news.length) * bytes<=140737488355328)
  (k:∀v' w',Mem Φ (wA K i (.gs v' e size (xs++news))) w'->Kn v' w') :
  Oper.eff P ⟨dst,.call { callee:=.builtin .append,args:=#[s,x],argTypes:=#[t,t] },ty,pos,aft,g⟩ a w Kn Qp :=
 vZ i b J N O d j h c (fun n m f hl=>by
  refine Nat.le_trans (Nat.mul_le_mul_right _ ?_) hb;rw [f,hl,<- Nat.add_mul]
  exact Nat.le_mul_of_pos_right _ b.pos) k
end Go.Sw

namespace Go.Sw
variable {P:Program} {n:Nat} {E:List (Nat×Value)} {D:List Deferred} {a:Act} {Φ Ψ:Fz} {K K':List Res} {w:World}
section
variable {ops:Array Oper} {B:World->Prop} {kd:List Nat} {Qp:List PanicEntry->World->Prop} {Q:Act->World->Prop} {d:Nat} {v:Value} {op:Op} {ty:TypeId} {pos:String} {aft:Array Edge} {g:Option (Nat×Bool)} {i:Nat} {p:Plan} {dst:Option Tmp}
theorem dP {id:Nat} {l:List Oper} {Q:Exit->Act->World->Prop} (kd:List Nat) (p:Plan) (K':List Res) (J:EnvR n E D a) (N:Mem Φ K w) (g:P.follows .mixedOrders=true) (b:tN l.toArray kd p=true) (d:∀r∈K',r∈K)
  (h:∀w,Mem Φ K w->zU P .any l.toArray (Sees Φ K') kd (fun c w=>∀a,a.defers=D->Q (.panic c) a w) (Q .normal) p a w):(Code.region id l.toArray true).wp P Q a w:=by
 have hm':=N.drew;exact y3j (D:=D) kd p (Sees Φ K') (fun c w=>∀a,a.defers=D->Q (.panic c) a w) g b (fun c a w e h=>h a e) J.defs ⟨hm'.fz,fun r f=>hm'.own r (d r f)⟩ (h _ hm')
theorem mI {o:Oper} (a:o.guard=none) (f:Nat->Option Bool):Region.wanted o f=true:=by simp [Region.wanted,a]
theorem d_q (J:EnvR n E D a) (hi:ops[i]? = some ⟨some d,op,ty,pos,aft,none⟩) (b:yQ kd i=2) (e:∀w,B w->Ok P a op ty w v) (c:Nat.blt d n=true)
  (k:∀a,EnvR n ((d,v)::E) D a->zU P .any ops B kd Qp Q p a w):zU P .any ops B kd Qp Q (.q i p) a w:=by
 unfold zU vR;simp only [hi];rw [if_pos (mI rfl _),if_neg (by rw [b];decide)];exact ⟨v,fun w f=>e w (f b) _ _ _ _,k _ (J.put c)⟩
theorem d_q1 (J:EnvR n E D a) (hi:ops[i]? = some ⟨some d,op,ty,pos,aft,none⟩) (c:yQ kd i=1) (e:∀w,Ok P a op ty w v) (b:Nat.blt d n=true)
  (k:∀a,EnvR n ((d,v)::E) D a->zU P .any ops B kd Qp Q p a w):zU P .any ops B kd Qp Q (.q i p) a w:=by
 unfold zU vR;simp only [hi];rw [if_pos (mI rfl _),if_neg (by rw [c];decide)];exact ⟨v,fun w _=>e w _ _ _ _,k _ (J.put b)⟩
theorem d_qg (J:EnvR n E D a) {j t:Nat} {b:Bool} (hi:ops[i]? = some ⟨some d,op,ty,pos,aft,some (j,b)⟩) (f:ops[j]?.bind (·.dst)=some t) (h:get E t=some (.bool b)) (c:yQ kd i=2)
  (g:∀w,B w->Ok P a op ty w v) (e:Nat.blt d n=true)
  (k:∀a,EnvR n ((d,v)::E) D a->zU P .any ops B kd Qp Q p a w):zU P .any ops B kd Qp Q (.q i p) a w:=by
 unfold zU vR;simp only [hi];rw [if_pos (pY J rfl f h),if_neg (by rw [c];decide)];exact ⟨v,fun w l=>g w (l c) _ _ _ _,k _ (J.put e)⟩
theorem d_qg1 (J:EnvR n E D a) {j t:Nat} {b:Bool} (hi:ops[i]? = some ⟨some d,op,ty,pos,aft,some (j,b)⟩) (e:ops[j]?.bind (·.dst)=some t) (h:get E t=some (.bool b)) (f:yQ kd i=1)
  (g:∀w,Ok P a op ty w v) (c:Nat.blt d n=true)
  (k:∀a,EnvR n ((d,v)::E) D a->zU P .any ops B kd Qp Q p a w):zU P .any ops B kd Qp Q (.q i p) a w:=by
 unfold zU vR;simp only [hi];rw [if_pos (pY J rfl e h),if_neg (by rw [f];decide)];exact ⟨v,fun w _=>g w _ _ _ _,k _ (J.put c)⟩
theorem d_done (h:Q a w):zU P .any ops B kd Qp Q .done a w:=h
theorem d_no (J:EnvR n E D a) {j t:Nat} {b:Bool} (hi:ops[i]? = some ⟨some d,op,ty,pos,aft,some (j,b)⟩) (e:ops[j]?.bind (·.dst)=some t) {u:Value} (f:get E t=some u) (hb:y9c u b=true)
  (c:Nat.blt d n=true) (k:∀a,EnvR n ((d,undef)::E) D a->zU P .any ops B kd Qp Q p a w):zU P .any ops B kd Qp Q (.q i p) a w:=by
 unfold zU vR;simp only [hi];rw [if_neg (by rw [uR J rfl e f hb];simp)];exact k _ (J.put c)
theorem d_no_e (J:EnvR n E D a) {j t:Nat} {b:Bool} (hi:ops[i]? = some ⟨some d,op,ty,pos,aft,some (j,b)⟩) (f:ops[j]?.bind (·.dst)=some t) {u:Value} (g:get E t=some u) (hb:y9c u b=true)
  (c:Nat.blt d n=true) (k:∀a,EnvR n ((d,undef)::E) D a->zU P .any ops B kd Qp Q p a w):zU P .any ops B kd Qp Q (.e i p) a w:=by
 unfold zU vR;simp only [hi];rw [if_neg (by rw [uR J rfl f g hb];simp)];exact k _ (J.put c)
theorem z0p (J:EnvR n E D a) {L:Act->World->Prop} (hi:ops[i]? = some ⟨some d,op,ty,pos,aft,none⟩) (e:yQ kd i=0) (c:Nat.blt d n=true)
  (h:Oper.eff P ⟨some d,op,ty,pos,aft,none⟩ a w (fun v w'=>(dK .any kd ⟨some d,op,ty,pos,aft,none⟩=true->B w')/\∀a,EnvR n ((d,v)::E) D a->L a w') Qp):vR P .any ops B kd Qp i L a w:=by
 unfold vR;simp only [hi];rw [if_pos (mI rfl _),if_pos e];exact xB (Oper.eff.toR h) (fun v w' b=>⟨b.1,b.2 _ (J.put c)⟩) (fun _ _ h=>h)
theorem drOp_e0 (J:EnvR n E D a) {L:Act->World->Prop} (hi:ops[i]? = some ⟨none,op,ty,pos,aft,none⟩) (c:yQ kd i=0)
  (h:Oper.eff P ⟨none,op,ty,pos,aft,none⟩ a w (fun _ w'=>(dK .any kd ⟨none,op,ty,pos,aft,none⟩=true->B w')/\∀a,EnvR n E D a->L a w') Qp):vR P .any ops B kd Qp i L a w:=by
 unfold vR;simp only [hi];rw [if_pos (mI rfl _),if_pos c];exact xB (Oper.eff.toR h) (fun v w' b=>⟨b.1,b.2 _ J.put_none⟩) (fun _ _ h=>h)
theorem drOp_eg (J:EnvR n E D a) {L:Act->World->Prop} {j t:Nat} {b:Bool} (hi:ops[i]? = some ⟨some d,op,ty,pos,aft,some (j,b)⟩) (f:ops[j]?.bind (·.dst)=some t) (c:get E t=some (.bool b)) (g:yQ kd i=0) (e:Nat.blt d n=true)
  (h:Oper.eff P ⟨some d,op,ty,pos,aft,some (j,b)⟩ a w (fun v w'=>(dK .any kd ⟨some d,op,ty,pos,aft,some (j,b)⟩=true->B w')/\∀a,EnvR n ((d,v)::E) D a->L a w') Qp):vR P .any ops B kd Qp i L a w:=by
 unfold vR;simp only [hi];rw [if_pos (pY J rfl f c),if_pos g];exact xB (Oper.eff.toR h) (fun v w' c=>⟨c.1,c.2 _ (J.put e)⟩) (fun _ _ h=>h)
theorem d_e (J:EnvR n E D a) (hi:ops[i]? = some ⟨some d,op,ty,pos,aft,none⟩) (c:yQ kd i=0) (b:Nat.blt d n=true)
  (h:Oper.eff P ⟨some d,op,ty,pos,aft,none⟩ a w (fun v w'=>(dK .any kd ⟨some d,op,ty,pos,aft,none⟩=true->B w')/\∀a,EnvR n ((d,v)::E) D a->zU P .any ops B kd Qp Q p a w') Qp):zU P .any ops B kd Qp Q (.e i p) a w :=
 z0p J hi c b h
theorem aJ (J:EnvR n E D a) (hi:ops[i]? = some ⟨none,op,ty,pos,aft,none⟩) (b:yQ kd i=0)
  (h:Oper.eff P ⟨none,op,ty,pos,aft,none⟩ a w (fun _ w'=>(dK .any kd ⟨none,op,ty,pos,aft,none⟩=true->B w')/\∀a,EnvR n E D a->zU P .any ops B kd Qp Q p a w') Qp):zU P .any ops B kd Qp Q (.e i p) a w :=
 drOp_e0 J hi b h
theorem d_eg (J:EnvR n E D a) {j t:Nat} {b:Bool} (hi:ops[i]? = some ⟨some d,op,ty,pos,aft,some (j,b)⟩) (f:ops[j]?.bind (·.dst)=some t) (k:get E t=some (.bool b)) (g:yQ kd i=0) (c:Nat.blt d n=true)
  (h:Oper.eff P ⟨some d,op,ty,pos,aft,some (j,b)⟩ a w (fun v w'=>(dK .any kd ⟨some d,op,ty,pos,aft,some (j,b)⟩=true->B w')/\∀a,EnvR n ((d,v)::E) D a->zU P .any ops B kd Qp Q p a w') Qp):zU P .any ops B kd Qp Q (.e i p) a w :=
 drOp_eg J hi f k g c h
theorem wO {i j:Nat} {p r:Plan} (b:zU P .any ops B kd Qp Q (.e i p) a w) (c:zU P .any ops B kd Qp Q (.e j r) a w):zU P .any ops B kd Qp Q (.e2 i j p r) a w:=⟨b,c⟩
theorem Mem.seesIn (N:Mem Ψ K w) (hl:Φ.Le Ψ) (a:∀r∈K',r∈K):Sees Φ K' w:=⟨fun b o hb=>N.fz b o (hl.obj b o hb),fun r c=>N.own r (a r c)⟩
end
section
variable {Kn:Value->World->Prop} {Qp:List PanicEntry->World->Prop} {dst:Option Tmp} {ty:TypeId} {pos:String} {aft:Array Edge} {g:Option (Nat×Bool)}
variable {f:FuncId} {xs:Array Operand} {ts:Array TypeId} {vs:List Value}
theorem z4n {X:Value} {Φ':Fz} {K':List Res} (J:EnvR n E D a) (i:evs E xs.toList=some vs) (d:∀args w,(callFunc f args).run P w=.ok (.enter f args) w)
  (b:Calls P f vs.toArray w (fun e w'=>e=.returned X/\Mem Φ' K' w')) (k:∀w',Mem Φ' K' w'->Kn X w') :
  Oper.eff P ⟨dst,.call { callee:=.value (.func f),args:=xs,argTypes:=ts },ty,pos,aft,g⟩ a w Kn Qp :=
 mQ J i d b (fun v w' h=>by cases h.1;exact k _ h.2) (fun c w' h=>by cases h.1) (fun w' h=>by cases h.1)
theorem j5l {b:Bool} {Φ':Fz} {K':List Res} (J:EnvR n E D a) (h:evs E xs.toList=some vs) (d:∀args w,(callFunc f args).run P w=.ok (.enter f args) w)
  (c:Calls P f vs.toArray w (fun e w'=>e=.returned (.bool b)/\Mem Φ' K' w')) (kt:b=true->∀w',Mem Φ' K' w'->Kn (.bool true) w') (kf:b=false->∀w',Mem Φ' K' w'->Kn (.bool false) w') :
  Oper.eff P ⟨dst,.call { callee:=.value (.func f),args:=xs,argTypes:=ts },ty,pos,aft,g⟩ a w Kn Qp:=by
 refine z4n J h d c fun w' N=>?_;cases b with
 | true=>exact kt rfl _ N
 | false=>exact kf rfl _ N
end
section
variable {Kn:Value->World->Prop} {Qp:List PanicEntry->World->Prop} {dst:Option Tmp} {ty:TypeId} {pos:String} {aft:Array Edge} {g:Option (Nat×Bool)}
variable {f:FuncId} {xs:Array Operand} {ts:Array TypeId} {vs fs cs:List Value} {y:Operand}
theorem q7l {X:Value} {Φ':Fz} {K':List Res} (J:EnvR n E D a) (j:ev E y=some (.func (.func f) fs.toArray cs.toArray)) (i:evs E xs.toList=some vs) (d:∀args w,(callFunc f args).run P w=.ok (.enter f args) w)
  (b:Calls P f (fs++vs++cs).toArray w (fun e w'=>e=.returned X/\Mem Φ' K' w')) (k:∀w',Mem Φ' K' w'->Kn X w') :
  Oper.eff P ⟨dst,.call { callee:=.value y,args:=xs,argTypes:=ts },ty,pos,aft,g⟩ a w Kn Qp :=
 cF J j i d b (fun v w' h=>by cases h.1;exact k _ h.2) (fun c w' h=>by cases h.1) (fun w' h=>by cases h.1)
theorem q7k {b:Bool} {Φ':Fz} {K':List Res} (J:EnvR n E D a) (i:ev E y=some (.func (.func f) fs.toArray cs.toArray)) (h:evs E xs.toList=some vs) (d:∀args w,(callFunc f args).run P w=.ok (.enter f args) w)
  (c:Calls P f (fs++vs++cs).toArray w (fun e w'=>e=.returned (.bool b)/\Mem Φ' K' w')) (kt:b=true->∀w',Mem Φ' K' w'->Kn (.bool true) w') (kf:b=false->∀w',Mem Φ' K' w'->Kn (.bool false) w') :
  Oper.eff P ⟨dst,.call { callee:=.value y,args:=xs,argTypes:=ts },ty,pos,aft,g⟩ a w Kn Qp:=by
 refine q7l J i h d c fun w' N=>?_;cases b with
 | true=>exact kt rfl _ N
 | false=>exact kf rfl _ N
end
theorem gV {Q:Exit->Act->World->Prop} {c:Code} (I:Nat->Act->World->Prop) (d:Nat) (e:I d a w)
  (hb:∀m a w,I m a w->∀L:Act->World->Prop,(∀m' a w,m' < m->I m' a w->L a w)->c.wp P (Exit.then L Q) a w):(Code.loop c).wp P Q a w:=by
 refine wp_loop_ghost I d e fun m a w f=>hb m a w f _ fun m' a w b h=>⟨m',b,h⟩
end Go.Sw

namespace Go.Sw
abbrev Bs:=ByteArray
def I64 (i:Int):Prop:=-9223372036854775808<=i/\i<=9223372036854775807
theorem I64.wrap {i:Int} (h:I64 i):IntKind.i64.wrap i=i:=aM h
theorem I64.of_wrap (i:Int):I64 (IntKind.i64.wrap i):=by
 simp only [I64,IntKind.wrap,IntKind.signed,IntKind.bits]
 simp
 omega
inductive Val where
 | mk (con:Bs) (num:Int) (args:List Val)
namespace Val
def con:Val->Bs | .mk c _ _=>c
def num:Val->Int | .mk _ n _=>n
def args:Val->List Val | .mk _ _ a=>a
end Val
mutual
inductive Ex where
 | mk (kind num:Int) (name:Bs) (args:List Ex) (arms:List Arm)
inductive Arm where
 | mk (con:Bs) (vars:List Bs) (body:Ex)
end
namespace Ex
def kind:Ex->Int | .mk k _ _ _ _=>k
def num:Ex->Int | .mk _ n _ _ _=>n
def name:Ex->Bs | .mk _ _ s _ _=>s
def args:Ex->List Ex | .mk _ _ _ a _=>a
def arms:Ex->List Arm | .mk _ _ _ _ a=>a
end Ex
namespace Arm
def con:Arm->Bs | .mk c _ _=>c
def vars:Arm->List Bs | .mk _ v _=>v
def body:Arm->Ex | .mk _ _ b=>b
end Arm
structure Param where
 name:Bs
 type:Bs
structure Con where
 name:Bs
 fields:List Bs
structure Data where
 name:Bs
 cons:List Con
structure Fun where
 name:Bs
 params:List Param
 result:Bs
 body:Ex
structure Core where
 datas:List Data
 inputs:List Param
 funs:List Fun
 outputs:List Bs
structure Named where
 name:Bs
 value:Val
def RStr (_:Fz) (cs:List Value) (s:Bs):Prop:=cs=[.string s]
theorem RStr.mono (Φ Ψ:Fz) (c:List Value) (x:Bs) (_:Φ.Le Ψ) (h:RStr Φ c x):RStr Ψ c x:=h
mutual
def RVal' (Φ:Fz):Val->List Value->Prop
 | .mk con num args,cs=>∃s d,cs=[.string con,.int .i64 num,s]/\I64 num/\Row Φ s 3 d/\RVals' Φ args d
def RVals' (Φ:Fz):List Val->List Value->Prop
 | [],cs=>cs=[]
 | x::xs,cs=>∃c rest,cs=c++rest/\c.length=3/\RVal' Φ x c/\RVals' Φ xs rest
end
def RVal (Φ:Fz) (cs:List Value) (x:Val):Prop:=RVal' Φ x cs
theorem RVals'.iff {Φ:Fz}:∀{xs:List Val} {cs:List Value},RVals' Φ xs cs↔Chunks (RVal Φ) 3 cs xs
 | [],cs=>by simp only [RVals',Chunks]
 | x::xs,cs=>by simp only [RVals',Chunks,RVals'.iff (xs:=xs),RVal]
theorem RVal.iff {Φ:Fz} {cs:List Value} {x:Val}:RVal Φ cs x↔∃s,cs=[.string x.con,.int .i64 x.num,s]/\I64 x.num/\SliceOf RVal Φ 3 s x.args:=by
 cases x with
 | mk con num args=>
  simp only [RVal,RVal',RVals'.iff,Val.con,Val.num,Val.args,SliceOf];constructor
  ·rintro ⟨s,d,a,b,c,e⟩;exact ⟨s,a,b,d,c,e⟩
  ·rintro ⟨s,a,b,d,c,e⟩;exact ⟨s,d,a,b,c,e⟩
mutual
theorem RVal'.mono {Φ Ψ:Fz} (hl:Φ.Le Ψ):∀{x:Val} {cs:List Value},RVal' Φ x cs->RVal' Ψ x cs
 | .mk _ _ _,_,⟨s,d,a,b,e,f⟩=>⟨s,d,a,b,e.mono hl,RVals'.mono hl f⟩
theorem RVals'.mono {Φ Ψ:Fz} (hl:Φ.Le Ψ):∀{xs:List Val} {cs:List Value},RVals' Φ xs cs->RVals' Ψ xs cs
 | [],_,h=>h
 | _::_,_,⟨c,rest,a,b,e,f⟩=>⟨c,rest,a,b,RVal'.mono hl e,RVals'.mono hl f⟩
end
theorem RVal.mono (Φ Ψ:Fz) (c:List Value) (x:Val) (hl:Φ.Le Ψ) (h:RVal Φ c x):RVal Ψ c x:=RVal'.mono hl h
mutual
def REx' (Φ:Fz):Ex->List Value->Prop
 | .mk kind num name args arms,cs=>∃s t d f,cs=[.int .i64 kind,.int .i64 num,.string name,s,t]/\I64 num/\Row Φ s 5 d/\REs' Φ args d/\Row Φ t 7 f/\RArms' Φ arms f
def REs' (Φ:Fz):List Ex->List Value->Prop
 | [],cs=>cs=[]
 | x::xs,cs=>∃c rest,cs=c++rest/\c.length=5/\REx' Φ x c/\REs' Φ xs rest
def RArm' (Φ:Fz):Arm->List Value->Prop
 | .mk con vars body,cs=>∃s b,cs=.string con::s::b/\b.length=5/\SliceOf RStr Φ 1 s vars/\REx' Φ body b
def RArms' (Φ:Fz):List Arm->List Value->Prop
 | [],cs=>cs=[]
 | x::xs,cs=>∃c rest,cs=c++rest/\c.length=7/\RArm' Φ x c/\RArms' Φ xs rest
end
def REx (Φ:Fz) (cs:List Value) (x:Ex):Prop:=REx' Φ x cs
def RArm (Φ:Fz) (cs:List Value) (x:Arm):Prop:=RArm' Φ x cs
theorem REs'.iff {Φ:Fz}:∀{xs:List Ex} {cs:List Value},REs' Φ xs cs↔Chunks (REx Φ) 5 cs xs
 | [],cs=>by simp only [REs',Chunks]
 | x::xs,cs=>by simp only [REs',Chunks,REs'.iff (xs:=xs),REx]
theorem RArms'.iff {Φ:Fz}:∀{xs:List Arm} {cs:List Value},RArms' Φ xs cs↔Chunks (RArm Φ) 7 cs xs
 | [],cs=>by simp only [RArms',Chunks]
 | x::xs,cs=>by simp only [RArms',Chunks,RArms'.iff (xs:=xs),RArm]
theorem REx.iff {Φ:Fz} {cs:List Value} {x:Ex}:REx Φ cs x↔∃s t,cs=[.int .i64 x.kind,.int .i64 x.num,.string x.name,s,t]/\I64 x.num/\SliceOf REx Φ 5 s x.args/\SliceOf RArm Φ 7 t x.arms:=by
 cases x with
 | mk kind num name args arms=>
  simp only [REx,REx',REs'.iff,RArms'.iff,Ex.kind,Ex.num,Ex.name,Ex.args,Ex.arms,SliceOf];constructor
  ·rintro ⟨s,t,d,f,a,b,c,e,g,h⟩;exact ⟨s,t,a,b,⟨d,c,e⟩,f,g,h⟩
  ·rintro ⟨s,t,a,b,⟨d,c,e⟩,f,g,h⟩;exact ⟨s,t,d,f,a,b,c,e,g,h⟩
theorem RArm.iff {Φ:Fz} {cs:List Value} {x:Arm}:RArm Φ cs x↔∃s b,cs=.string x.con::s::b/\SliceOf RStr Φ 1 s x.vars/\REx Φ b x.body:=by
 cases x with
 | mk con vars body=>
  simp only [RArm,RArm',Arm.con,Arm.vars,Arm.body,REx];constructor
  ·rintro ⟨s,b,c,_,d,a⟩;exact ⟨s,b,c,d,a⟩
  ·rintro ⟨s,b,c,d,a⟩
   refine ⟨s,b,c,?_,d,a⟩;obtain ⟨s,t,rfl,_⟩:=REx.iff.1 (show REx Φ b body from a);rfl
mutual
theorem REx'.mono {Φ Ψ:Fz} (hl:Φ.Le Ψ):∀{x:Ex} {cs:List Value},REx' Φ x cs->REx' Ψ x cs
 | .mk _ _ _ _ _,_,⟨s,t,d,f,a,e,g,i,j,k⟩=>⟨s,t,d,f,a,e,g.mono hl,REs'.mono hl i,j.mono hl,RArms'.mono hl k⟩
theorem REs'.mono {Φ Ψ:Fz} (hl:Φ.Le Ψ):∀{xs:List Ex} {cs:List Value},REs' Φ xs cs->REs' Ψ xs cs
 | [],_,h=>h
 | _::_,_,⟨c,rest,a,e,g,i⟩=>⟨c,rest,a,e,REx'.mono hl g,REs'.mono hl i⟩
theorem RArm'.mono {Φ Ψ:Fz} (hl:Φ.Le Ψ):∀{x:Arm} {cs:List Value},RArm' Φ x cs->RArm' Ψ x cs
 | .mk _ _ _,_,⟨s,b,a,e,g,i⟩=>⟨s,b,a,e,g.mono RStr.mono hl,REx'.mono hl i⟩
theorem RArms'.mono {Φ Ψ:Fz} (hl:Φ.Le Ψ):∀{xs:List Arm} {cs:List Value},RArms' Φ xs cs->RArms' Ψ xs cs
 | [],_,h=>h
 | _::_,_,⟨c,rest,a,e,g,i⟩=>⟨c,rest,a,e,RArm'.mono hl g,RArms'.mono hl i⟩
end
theorem REx.mono (Φ Ψ:Fz) (c:List Value) (x:Ex) (hl:Φ.Le Ψ) (h:REx Φ c x):REx Ψ c x:=REx'.mono hl h
theorem RArm.mono (Φ Ψ:Fz) (c:List Value) (x:Arm) (hl:Φ.Le Ψ) (h:RArm Φ c x):RArm Ψ c x:=RArm'.mono hl h
theorem yM {α:Type} {l:List α} {i:Nat} {x:α} (h:l[i]? = some x):l.drop i=x::l.drop (i+1):=by
 obtain ⟨a,b⟩:=List.getElem?_eq_some_iff.1 h;rw [<- b];exact List.drop_eq_getElem_cons a
theorem zW {α:Type} {l:List α} {i:Nat} (h:i < l.length):∃x,l[i]? = some x:=⟨_,List.getElem?_eq_getElem h⟩
theorem zO {α:Type} {l:List α} {i:Nat} (h:i < l.length):l≠[]:=by rintro rfl;simp at h
end Go.Sw

namespace Go.Sw
def uW {σ α:Type} (step:σ->α->Bool×σ):σ->List α->Nat->Int×σ
 | s,[],_=>(-1,s)
 | s,x::xs,i=>if (step s x).1 then ((i:Int),(step s x).2) else uW step (step s x).2 xs (i+1)
theorem qV {α:Type} {l:List α} {i:Nat} (h:¬i < l.length):l.drop i=[]:=List.drop_of_length_le (by omega)
theorem mgQ {α:Type} {l:List α} {i:Nat} {a:α} (h:l[i]? = some a):a ∈ l:=List.mem_of_getElem? h
theorem lcQ {α:Type} {a:α} {l:List α}:(a::l).length=l.length+1:=rfl
theorem lnQ {α:Type}:([]:List α).length=0:=rfl
theorem laQ {α:Type} {a b:List α}:(a++b).length=a.length+b.length:=List.length_append
theorem msQ {α:Type} {a:α} {l:List α}:a ∈ a::l:=List.mem_cons_self
theorem mcQ {α:Type} {a:α} {l:List α} (y:α) (h:a ∈ l):a ∈ y::l:=List.mem_cons_of_mem y h
theorem baQ (a b:Bool):((a&&b)=true)=(a=true/\b=true):=Bool.and_eq_true a b
end Go.Sw
