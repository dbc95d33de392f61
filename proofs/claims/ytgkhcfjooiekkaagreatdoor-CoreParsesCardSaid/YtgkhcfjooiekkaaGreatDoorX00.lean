import Derived.Tactics
import Derived.Laws.AppendOwn
import Derived.KernelRfl
import Derived.Still
import Derived.Laws.Strings
import Derived.Laws.Tables
import Derived.Laws.CopyRow
import Derived.Laws.Entries
import Derived.Deep.LoopGhost
set_option linter.unusedVariables false
set_option linter.unusedSimpArgs false
namespace Go.Sw
def get:List (Nat×Value)->Nat->Option Value
 | [],_=>none
 | (n,v)::E,t=>bif Nat.beq n t then some v else get E t
def ev (E:List (Nat×Value)):Operand->Option Value
 | .tmp t=>get E t
 | .const v=>some v
 | .global g=>some (.pointer (some ⟨g,0,none⟩))
 | .func f=>some (.func (.func f) #[] #[])
def evs (E:List (Nat×Value)):List Operand->Option (List Value)
 | []=>some []
 | x::xs=>match ev E x,evs E xs with
  | some v,some vs=>some (v::vs)
  | _,_=>none
structure EnvR (n:Nat) (E:List (Nat×Value)) (D:List Deferred) (a:Act):Prop where
 size:a.tmps.size=n
 env:∀t v,get E t=some v->a.tmps[t]? = some v
 defs:a.defers=D
section
variable {n:Nat} {E:List (Nat×Value)} {D:List Deferred} {a:Act}
theorem EnvR.ev (h:EnvR n E D a) {x:Operand} {v:Value} (b:ev E x=some v):a.eval x=v:=by
 cases x with
 | tmp t=>have:=h.env t v b;simp [Act.eval,Array.getD_eq_getD_getElem?,this]
 | const c=>simp only [Sw.ev,Option.some.injEq] at b;exact b
 | global g=>simp only [Sw.ev,Option.some.injEq] at b;exact b
 | func f=>simp only [Sw.ev,Option.some.injEq] at b;exact b
theorem EnvR.evs (h:EnvR n E D a):∀{xs:List Operand} {vs:List Value},evs E xs=some vs->xs.map a.eval=vs
 | [],vs,b=>by simp [Sw.evs] at b;simp [b]
 | x::xs,vs,b=>by
  simp only [Sw.evs] at b
  split at b
  ·rename_i v vs' h1 h2
   simp only [Option.some.injEq] at b
   subst b
   simp [h.ev h1,EnvR.evs h h2]
  ·cases b
theorem EnvR.evsA (h:EnvR n E D a) {xs:Array Operand} {vs:List Value} (b:Sw.evs E xs.toList=some vs):xs.map a.eval=vs.toArray:=by
 apply Array.ext'
 simp [h.evs b]
theorem wK {E:List (Nat×Value)} {d t:Nat} {v u:Value} (a:get ((d,v)::E) t=some u):(d=t/\v=u)∨(d≠t/\get E t=some u):=by
 simp only [get] at a
 cases hb:Nat.beq d t with
 | true=>
  have:d=t:=by simpa using hb
  simp only [hb,cond_true,Option.some.injEq] at a
  exact .inl ⟨this,a⟩
 | false=>
  simp only [hb,cond_false] at a
  exact .inr ⟨Nat.ne_of_beq_eq_false hb,a⟩
theorem EnvR.put (h:EnvR n E D a) {d:Nat} {v:Value} (e:Nat.blt d n=true):EnvR n ((d,v)::E) D (a.put (some d) v):=by
 have hd':d < n:=by simpa [Nat.blt_eq] using e
 refine ⟨by simp [Act.put,h.size],fun t u c=>?_,by simp [Act.put,h.defs]⟩
 rcases wK c with ⟨rfl,rfl⟩ | ⟨b,c⟩
 ·simp [Act.put,h.size,hd']
 ·simp only [Act.put]
  rw [Array.getElem?_setIfInBounds_ne b]
  exact h.env t u c
theorem EnvR.put_none (h:EnvR n E D a) {v:Value}:EnvR n E D (a.put none v):=by simpa [Act.put] using h
theorem EnvR.sub (h:EnvR n E D a) {E':List (Nat×Value)} (O:∀t v,get E' t=some v->get E t=some v):EnvR n E' D a :=
 ⟨h.size,fun t v b=>h.env t v (O t v b),h.defs⟩
def Sub:List (Nat×Value)->List (Nat×Value)->Prop
 | [],_=>True
 | (t,v)::E',E=>get E t=some v/\Sub E' E
theorem EnvR.of_sub (h:EnvR n E D a) {E':List (Nat×Value)} (O:Sub E' E):EnvR n E' D a:=by
 refine h.sub ?_
 clear h
 induction E' with
 | nil=>intro t v b;simp [get] at b
 | cons p E' c=>
  intro t v b
  rcases wK b with ⟨rfl,rfl⟩ | ⟨_,b⟩
  ·exact O.1
  ·exact c O.2 t v b
end
structure Fz where
 obj:Nat->Option Obj
 os:Os
 out:Array (Nat×ByteArray)
structure Fz.Le (V Ψ:Fz):Prop where
 obj:∀b o,V.obj b=some o->Ψ.obj b=some o
 os:Ψ.os=V.os
 out:Ψ.out=V.out
theorem Fz.Le.refl (V:Fz):V.Le V:=⟨fun _ _ h=>h,rfl,rfl⟩
theorem Fz.Le.trans {V Ψ Χ:Fz} (h:V.Le Ψ) (h':Ψ.Le Χ):V.Le Χ:=⟨fun b o hb=>h'.obj b o (h.obj b o hb),h'.os.trans h.os,h'.out.trans h.out⟩
def Fz.add (V:Fz) (b:Nat) (o:Obj):Fz:={ V with obj:=fun c=>if c=b then some o else V.obj c }
theorem Fz.le_add {V:Fz} {b:Nat} (h:V.obj b=none) (o:Obj):V.Le (V.add b o) :=
 ⟨fun c x a=>by
  simp only [Fz.add];split
  ·subst_vars;rw [h] at a;cases a
  ·exact a,rfl,rfl⟩
structure At (V:Fz) (p:Addr) (cs:List Value):Prop where
 spot:p.spot=none
 ex:∃arr T fr,V.obj p.block=some (.cells arr T fr)/\∀j v,cs[j]? = some v->arr[p.off+j]? = some v
theorem At.mono {V Ψ:Fz} {p:Addr} {cs:List Value} (h:At V p cs) (hl:V.Le Ψ):At Ψ p cs :=
 ⟨h.spot,let ⟨arr,T,fr,h1,h2⟩:=h.ex;⟨arr,T,fr,hl.obj _ _ h1,h2⟩⟩
structure MapOk (es:Array MapEntry) (clock:Nat) (m:List (ByteArray×Value)):Prop where
 eq:es.toList.map (fun e=>(e.key,e.val))=m.map (fun p=>(Value.string p.1,p.2))
 old:∀e∈es.toList,e.born < clock
 nodup:(es.toList.map (·.born)).Nodup
structure MapOkI (es:Array MapEntry) (clock:Nat) (m:List (Int×Value)):Prop where
 eq:es.toList.map (fun e=>(e.key,e.val))=m.map (fun p=>(Value.int .i64 p.1,p.2))
 old:∀e∈es.toList,e.born < clock
 nodup:(es.toList.map (·.born)).Nodup
inductive Res where
 | blk (b:Nat) (o:Obj)
 | gs (v:Value) (T:TypeId) (k:Nat) (cs:List Value)
 | mp (b:Nat) (m:List (ByteArray×Value))
 | imp (b:Nat) (m:List (Int×Value))
def Res.foot:Res->Option Nat
 | .blk b _=>some b
 | .gs v _ _ _=>v.ownBlock
 | .mp b _=>some b
 | .imp b _=>some b
def Res.sat (w:World):Res->Prop
 | .blk b o=>w.heap[b]? = some o
 | .gs v T k cs=>∃n,w.ownsRow 0 T k v n cs
 | .mp b m=>∃es clock,w.heap[b]? = some (.map es clock)/\MapOk es clock m
 | .imp b m=>∃es clock,w.heap[b]? = some (.map es clock)/\MapOkI es clock m
def cK (K:List Res):List Nat:=K.filterMap Res.foot
structure Sees (V:Fz) (K:List Res) (w:World):Prop where
 fz:∀b o,V.obj b=some o->w.heap[b]? = some o
 own:∀r∈K,r.sat w
structure Mem (V:Fz) (K:List Res) (w:World):Prop extends Sees V K w where
 os:w.os=V.os
 out:w.output=V.out
 nodup:(cK K).Nodup
 apart:∀b∈cK K,V.obj b=none
def qH:List Res->Nat->Option Res
 | [],_=>none
 | x::_,0=>some x
 | _::K,i+1=>qH K i
def wI:List Res->Nat->Res->List Res
 | [],_,_=>[]
 | _::K,0,r=>r::K
 | x::K,i+1,r=>x::wI K i r
def dJ:List Res->Nat->List Res
 | [],_=>[]
 | _::K,0=>K
 | x::K,i+1=>x::dJ K i
theorem yQ:∀{K:List Res} {i:Nat} {r:Res},qH K i=some r->r∈K
 | [],_,_,h=>by simp [qH] at h
 | x::_,0,r,h=>by simp only [qH,Option.some.injEq] at h;subst h;exact List.mem_cons_self
 | _::K,i+1,r,h=>List.mem_cons_of_mem _ (yQ (K:=K) (i:=i) h)
theorem z2r:∀{K:List Res} {i:Nat} {r:Res},qH K i=some r->K.Perm (r::dJ K i)
 | [],_,_,h=>by simp [qH] at h
 | x::K,0,r,h=>by simp only [qH,Option.some.injEq] at h;subst h;exact .refl _
 | x::K,i+1,r,h=>by
  have:=z2r (K:=K) (i:=i) h
  exact (this.cons x).trans (.swap _ _ _)
theorem z8n:∀{K:List Res} {i:Nat} {r:Res},qH K i=some r->∀r',(wI K i r').Perm (r'::dJ K i)
 | [],_,_,h,_=>by simp [qH] at h
 | x::K,0,r,h,_=>.refl _
 | x::K,i+1,r,h,r'=>by
  have:=z8n (K:=K) (i:=i) h r'
  exact (this.cons x).trans (.swap _ _ _)
section
variable {V Ψ:Fz} {K K':List Res} {w w':World} {r r':Res}
theorem Res.lt (h:r.sat w) {b:Nat} (hb:r.foot=some b):b < w.heap.size:=by
 cases r with
 | blk c o=>simp only [Res.foot,Option.some.injEq] at hb;subst hb;exact (Array.getElem?_eq_some_iff.1 h).1
 | gs v T k cs=>obtain ⟨n,h⟩:=h;exact (h.lt b hb).2
 | mp c m=>obtain ⟨es,clock,h,_⟩:=h;simp only [Res.foot,Option.some.injEq] at hb;subst hb;exact (Array.getElem?_eq_some_iff.1 h).1
 | imp c m=>obtain ⟨es,clock,h,_⟩:=h;simp only [Res.foot,Option.some.injEq] at hb;subst hb;exact (Array.getElem?_eq_some_iff.1 h).1
theorem Res.sat_same (h:r.sat w) (O:∀b,r.foot=some b->w'.heap[b]? = w.heap[b]?):r.sat w':=by
 cases r with
 | blk c o=>simp only [Res.sat] at h ⊢;rw [O c rfl];exact h
 | gs v T k cs=>
  obtain ⟨n,h1,h2⟩:=h
  refine ⟨n,h1,?_⟩
  rcases h2 with h2 | ⟨g,cap,cur,rfl,hb,a,rest⟩
  ·exact .inl h2
  ·exact .inr ⟨g,cap,cur,rfl,hb,by rw [O g rfl];exact a,rest⟩
 | mp c m=>
  obtain ⟨es,clock,h1,h2⟩:=h
  exact ⟨es,clock,by rw [O c rfl];exact h1,h2⟩
 | imp c m=>
  obtain ⟨es,clock,h1,h2⟩:=h
  exact ⟨es,clock,by rw [O c rfl];exact h1,h2⟩
theorem Mem.perm (h:Mem V K w) (c:K.Perm K'):Mem V K' w :=
 have a:(cK K).Perm (cK K'):=c.filterMap _
 { fz:=h.fz,own:=fun r hr=>h.own r (c.mem_iff.2 hr),os:=h.os,out:=h.out,nodup:=a.nodup_iff.1 h.nodup,apart:=fun b hb=>h.apart b (a.mem_iff.2 hb) }
theorem mem_keys {b:Nat}:b∈cK K↔∃r∈K,r.foot=some b:=by simp [cK]
theorem Mem.lt (h:Mem V K w) {b:Nat} (hb:b∈cK K):b < w.heap.size:=by
 obtain ⟨r,hr,a⟩:=mem_keys.1 hb
 exact Res.lt (h.own r hr) a
theorem Mem.drew (h:Mem V K w):Mem V K { w with drawn:=w.drawn+1 }:={ h with own:=fun r hr=>Res.sat_same (h.own r hr) (fun _ _=>rfl) }
theorem Mem.fzlt (h:Mem V K w) {b:Nat} {o:Obj} (hb:V.obj b=some o):b < w.heap.size:=(Array.getElem?_eq_some_iff.1 (h.fz b o hb)).1
theorem Mem.head (h:Mem V (r::K) w) (m:w'.os=w.os) (j:w'.output=w.output)
  (c:∀b,b < w.heap.size->some b≠r.foot->w'.heap[b]? = w.heap[b]?) (k:r'.sat w') (a:r'.foot=r.foot∨∀b,r'.foot=some b->w.heap.size<=b):Mem V (r'::K) w':=by
 have n:∀b,r.foot=some b->b∉cK K:=fun b hb l=>by
  have:=h.nodup
  simp only [cK,List.filterMap_cons,hb,List.nodup_cons] at this
  exact this.1 l
 have i:(cK K).Nodup:=by
  have:=h.nodup
  simp only [cK,List.filterMap_cons] at this
  split at this
  ·exact this
  ·exact (List.nodup_cons.1 this).2
 have g:∀b,b∈cK K->b∈cK (r::K):=fun b hb=>by
  obtain ⟨x,f,d⟩:=mem_keys.1 hb
  exact mem_keys.2 ⟨x,List.mem_cons_of_mem _ f,d⟩
 refine { fz:=fun b o hb=>?_,own:=fun x f=>?_,os:=m.trans h.os,out:=j.trans h.out,nodup := ?_,apart:=fun b hb=>?_ }
 ·rw [c b (h.fzlt hb) (fun e=>by
   have:=h.apart b (mem_keys.2 ⟨r,List.mem_cons_self,e.symm⟩)
   rw [this] at hb;cases hb)]
  exact h.fz b o hb
 ·rcases List.mem_cons.1 f with rfl | f
  ·exact k
  ·have hx':=h.own x (List.mem_cons_of_mem _ f)
   refine Res.sat_same hx' fun b hb=>c b (Res.lt hx' hb) fun e=>n b e.symm (mem_keys.2 ⟨x,f,hb⟩)
 ·cases d:r'.foot with
  | none=>simp only [cK,List.filterMap_cons,d];exact i
  | some b=>
   simp only [cK,List.filterMap_cons,d,List.nodup_cons]
   refine ⟨fun l=>?_,i⟩
   rcases a with e | e
   ·exact n b (e▸d) l
   ·have:=h.lt (g b l);have:=e b d;omega
 ·obtain ⟨x,f,d⟩:=mem_keys.1 hb
  rcases List.mem_cons.1 f with rfl | f
  ·rcases a with e | e
   ·exact h.apart b (mem_keys.2 ⟨r,List.mem_cons_self,e▸d⟩)
   ·cases p:V.obj b with
    | none=>rfl
    | some o=>have:=h.fzlt p;have:=e b d;omega
  ·exact h.apart b (g b (mem_keys.2 ⟨x,f,d⟩))
theorem Mem.upd (h:Mem V K w) {i:Nat} (g:qH K i=some r) (f:w'.os=w.os) (d:w'.output=w.output)
  (c:∀b,b < w.heap.size->some b≠r.foot->w'.heap[b]? = w.heap[b]?) (e:r'.sat w') (a:r'.foot=r.foot∨∀b,r'.foot=some b->w.heap.size<=b):Mem V (wI K i r') w' :=
 ((h.perm (z2r g)).head f d c e a).perm (z8n g r').symm
theorem Mem.more (h:Mem V K w) (g:w'.os=w.os) (d:w'.output=w.output) (c:∀b,b < w.heap.size->w'.heap[b]? = w.heap[b]?)
  (f:r.sat w') (a:∀b,r.foot=some b->w.heap.size<=b):Mem V (r::K) w':=by
 have j:Mem V (.gs (.slice none 0 0) 0 0 []::K) w :=
  { fz:=h.fz,own:=(fun x i=>(List.mem_cons.1 i).elim (fun e=>by subst e;exact ⟨0,World.ownsRow_nil w 0 0 0⟩) (fun i=>h.own x i)),os:=h.os,out:=h.out,nodup:=(show (cK K).Nodup from h.nodup),apart:=fun b hb=>h.apart b (show b∈cK K from hb) }
 exact j.head g d (fun b hb _=>c b hb) f (.inr a)
theorem Mem.nilRow (h:Mem V K w) (T:TypeId) (k:Nat):Mem V (.gs (.slice none 0 0) T k []::K) w :=
 h.more rfl rfl (fun _ _=>rfl) ⟨0,World.ownsRow_nil w 0 T k⟩ (by simp [Res.foot,Value.ownBlock])
theorem Mem.tail (h:Mem V (r::K) w):Mem V K w :=
 { fz:=h.fz,own:=fun x a=>h.own x (List.mem_cons_of_mem _ a),os:=h.os,out:=h.out,nodup:=(by
   have:=h.nodup
   simp only [cK,List.filterMap_cons] at this
   split at this
   ·exact this
   ·exact (List.nodup_cons.1 this).2),apart:=(fun b hb=>by
   obtain ⟨x,a,c⟩:=mem_keys.1 hb
   exact h.apart b (mem_keys.2 ⟨x,List.mem_cons_of_mem _ a,c⟩)) }
theorem Mem.del (h:Mem V K w) (i:Nat):Mem V (dJ K i) w:=by
 cases b:qH K i with
 | some r=>exact (h.perm (z2r b)).tail
 | none=>
  have:∀(K:List Res) i,qH K i=none->dJ K i=K:=by
   intro K
   induction K with
   | nil=>intro i _;rfl
   | cons x K c=>
    intro i a
    cases i with
    | zero=>simp [qH] at a
    | succ i=>simp only [qH] at a;simp only [dJ,c i a]
  rw [this K i b];exact h
theorem Mem.pull (h:Mem V K w) {i:Nat} (a:qH K i=some r):Mem V (r::dJ K i) w:=h.perm (z2r a)
theorem Mem.le (h:Mem V K w) (hl:Ψ.Le V):Mem Ψ K w :=
 { fz:=fun b o hb=>h.fz b o (hl.obj b o hb),own:=h.own,os:=h.os.trans hl.os,out:=h.out.trans hl.out,nodup:=h.nodup,apart:=(fun b hb=>by
   cases a:Ψ.obj b with
   | none=>rfl
   | some o=>have:=h.apart b hb;rw [hl.obj b o a] at this;cases this) }
theorem Mem.no (h:Mem V (r::K) w) {b:Nat} (hb:r.foot=some b):V.obj b=none:=h.apart b (mem_keys.2 ⟨r,List.mem_cons_self,hb⟩)
theorem Mem.freezeHead (h:Mem V (r::K) w) {b:Nat} {o:Obj} (hb:r.foot=some b) (g:w.heap[b]? = some o):Mem (V.add b o) K w :=
 have f:=h.tail
 { fz:=(fun c x a=>by
   simp only [Fz.add] at a
   split at a
   ·subst_vars;simp only [Option.some.injEq] at a;subst a;exact g
   ·exact h.fz c x a),own:=f.own,os:=h.os,out:=h.out,nodup:=f.nodup,apart:=(fun c a=>by
   have d:c≠b:=fun e=>by
    have:=h.nodup
    simp only [cK,List.filterMap_cons,hb,List.nodup_cons] at this
    exact this.1 (e▸a)
   simp only [Fz.add,if_neg d]
   exact f.apart c a) }
end
end Go.Sw

namespace Go.Sw
section
variable {P:Program} {ops:Array Oper} {md:Region.Mode} {B:World->Prop} {kd:List Nat} {Qp:List PanicEntry->World->Prop} {D:List Deferred}
def pO (P:Program) (K:Value->World->Prop) (Qp:List PanicEntry->World->Prop):Result Next->Prop
 | .ok (.value v) w'=>K v w'
 | .ok .skip w'=>K undef w'
 | .ok (.enter f args) w'=>Calls P f args w' fun
   | .returned v,w''=>K v w''
   | .panicked chain,w''=>Qp chain w''
   | .outgrown,_=>False
 | .halt (.panic v) w'=>Qp [{ v,recovered:=false }] w'
 | _=>False
def Oper.eff (P:Program) (o:Oper) (a:Act) (w:World) (K:Value->World->Prop) (Qp:List PanicEntry->World->Prop):Prop :=
 pO P K Qp ((execOp a.eval o).run P w)
theorem qB {K K':Value->World->Prop} {Qp Qp':List PanicEntry->World->Prop} {r:Result Next} (h:pO P K Qp r) (a:∀v w,K v w->K' v w) (b:∀c w,Qp c w->Qp' c w):pO P K' Qp' r:=by
 cases r with
 | ok n w'=>
  cases n <;> simp only [pO] at h ⊢
  case value=>exact a _ _ h
  case skip=>exact a _ _ h
  case enter f args=>exact h.mono fun e w'' J=>by cases e <;> first | exact a _ _ J | exact b _ _ J | exact J
 | halt x w'=>cases x <;> simp only [pO] at h ⊢;exact b _ _ h
theorem cS {o:Oper} {a:Act} {w:World} {K:Act->World->Prop} {Q:Exit->Act->World->Prop}
  (h:Oper.eff P o a w (fun v w'=>K (a.put o.dst v) w') (fun c w'=>Q (.panic c) a w')):o.wp P a w K Q:=by
 unfold Oper.eff at h
 unfold Oper.wp
 generalize (execOp a.eval o).run P w=r at *
 cases r with
 | ok n w'=>
  cases n <;> simp only [pO] at h <;> simp only [Oper.upon]
  case value=>exact h
  case skip=>exact h
  case enter f args=>exact h.mono fun e w'' J=>by cases e <;> first | exact J | exact J.elim
 | halt x w'=>cases x <;> simp only [pO] at h;simp only [Oper.upon];exact h
def qC (kd:List Nat) (i:Nat):Nat:=kd.getD i 0
def oN (md:Region.Mode) (kd:List Nat) (o:Oper):Bool :=
 (List.range kd.length).any fun i=>qC kd i==2 && !(o.after.any fun e=>Region.binds md e&&e.on==i)
def q3c (P:Program) (B:World->Prop) (k:Nat) (o:Oper) (a:Act) (v:Value):Prop :=
 ∀w,(k=2->B w)->(execOp a.eval o).run P w=.ok (.value v) w
def aC (P:Program) (md:Region.Mode) (ops:Array Oper) (B:World->Prop) (kd:List Nat) (Qp:List PanicEntry->World->Prop) (i:Nat) (K:Act->World->Prop) (a:Act) (w:World):Prop :=
 match ops[i]? with
 | none=>K a w
 | some o=>
  if Region.wanted o (yielded ops a.tmps) then
   if qC kd i=0 then Oper.eff P o a w (fun v w'=>(oN md kd o=true->B w')/\K (a.put o.dst v) w') Qp
   else ∃v,q3c P B (qC kd i) o a v/\K (a.put o.dst v) w
  else K (a.put o.dst undef) w
def q5n (P:Program) (md:Region.Mode) (ops:Array Oper) (B:World->Prop) (kd:List Nat) (Qp:List PanicEntry->World->Prop) (Q:Act->World->Prop):Nat->Array Bool->Act->World->Prop
 | 0,listed,a,w=>Region.ready md ops listed=[]/\Q a w
 | n+1,listed,a,w=>(Region.ready md ops listed=[]->Q a w) /\
   ∀i∈Region.ready md ops listed,aC P md ops B kd Qp i (q5n P md ops B kd Qp Q n (listed.setIfInBounds i true)) a w
theorem z7x {i:Nat} {K K':Act->World->Prop} {a:Act} {w:World} (b:∀a' w',a'.defers=a.defers->K a' w'->K' a' w') (h:aC P md ops B kd Qp i K a w):aC P md ops B kd Qp i K' a w:=by
 have c:∀(o:Oper) v,(a.put o.dst v).defers=a.defers:=fun o v=>by cases o.dst <;> rfl
 unfold aC at *
 cases e:ops[i]? with
 | none=>simp only [e] at h ⊢;exact b _ _ rfl h
 | some o=>
  simp only [e] at h ⊢
  by_cases g:Region.wanted o (yielded ops a.tmps)=true
  ·rw [if_pos g] at h ⊢
   by_cases d:qC kd i=0
   ·rw [if_pos d] at h ⊢;exact qB h (fun v w' f=>⟨f.1,b _ _ (c o v) f.2⟩) (fun _ _ h=>h)
   ·rw [if_neg d] at h ⊢
    obtain ⟨v,h1,h2⟩:=h
    exact ⟨v,h1,b _ _ (c o v) h2⟩
  ·rw [if_neg g] at h ⊢;exact b _ _ (c o _) h
theorem j0n {Q:Act->World->Prop} {Q':Exit->Act->World->Prop} (hQ:∀a w,Q a w->Q' .normal a w) (H:∀c a w,a.defers=D->Qp c w->Q' (.panic c) a w) :
  ∀(n:Nat) (listed:Array Bool) (a:Act) (w:World),a.defers=D->((List.range ops.size).any (fun i=>qC kd i==2 && !listed.getD i true)=true->B w) ->
   q5n P md ops B kd Qp Q n listed a w->wpAny P md ops Q' n listed a w:=by
 intro n
 induction n with
 | zero=>intro listed a w _ _ h;exact ⟨h.1,hQ _ _ h.2⟩
 | succ n t=>
  intro listed a w q y h
  refine ⟨fun E=>hQ _ _ (h.1 E),fun i u=>?_⟩
  have l:∀(a:Act) x v,(a.put x v).defers=a.defers:=fun a x v=>by cases x <;> rfl
  have hi':=mem_ready.1 u
  have f:((List.range ops.size).any (fun k=>qC kd k==2 && !(listed.setIfInBounds i true).getD k true)=true->B w):=fun m=>by
   apply y
   rw [List.any_eq_true] at m ⊢
   obtain ⟨k,r,b⟩:=m
   simp only [Bool.and_eq_true,beq_iff_eq,Bool.not_eq_true'] at b
   refine ⟨k,r,?_⟩
   simp only [Bool.and_eq_true,beq_iff_eq,Bool.not_eq_true']
   refine ⟨b.1,?_⟩
   by_cases d:i=k
   ·subst d;exact hi'.1
   ·rw [getD_set_ne true d] at b;exact b.2
  have h1:=h.2 i u
  unfold aC at h1
  unfold wpOp
  cases s:ops[i]? with
  | none=>simp only [s] at h1 ⊢;exact t _ _ _ q f h1
  | some o=>
   simp only [s] at h1 ⊢
   by_cases C:Region.wanted o (yielded ops a.tmps)=true
   ·rw [if_pos C] at h1 ⊢
    refine .inl (cS ?_)
    by_cases z:qC kd i=0
    ·rw [if_pos z] at h1
     refine qB h1 (fun v w' A=>t _ _ _ ((l _ _ _).trans q) (fun m=>A.1 ?_) A.2) (fun c w' G=>H c a w' q G)
     rw [List.any_eq_true] at m
     obtain ⟨k,r,b⟩:=m
     simp only [Bool.and_eq_true,beq_iff_eq,Bool.not_eq_true'] at b
     unfold oN
     rw [List.any_eq_true]
     have j:k < kd.length:=by
      by_cases j:k < kd.length
      ·exact j
      ·have:=b.1
       simp [qC,List.getD_eq_getElem?_getD,List.getElem?_eq_none (Nat.le_of_not_lt j)] at this
     refine ⟨k,List.mem_range.2 j,?_⟩
     simp only [Bool.and_eq_true,beq_iff_eq,Bool.not_eq_true']
     refine ⟨b.1,?_⟩
     rw [<- Bool.not_eq_true]
     intro m
     obtain ⟨e,J,hb⟩:=Array.any_eq_true'.1 m
     simp only [Bool.and_eq_true,beq_iff_eq] at hb
     obtain ⟨_,o',ho',p⟩:=hi'
     rw [s] at ho'
     cases ho'
     have hl:=p e J hb.1
     rw [hb.2] at hl
     have g:=b.2
     by_cases d:i=k
     ·subst d
      have:=(mem_ready.1 u).1
      rcases Nat.lt_or_ge i listed.size with h' | h'
      ·simp [h'] at hl this;rw [hl] at this;cases this
      ·simp [Array.getElem?_eq_none h'] at hl
     ·rw [getD_set_ne true d] at g
      rcases Nat.lt_or_ge k listed.size with h' | h'
      ·simp [h'] at hl g;rw [hl] at g;cases g
      ·simp [Array.getElem?_eq_none h'] at hl
    ·rw [if_neg z] at h1
     obtain ⟨v,h2,F⟩:=h1
     have hr:=h2 w (fun e=>y (by
      rw [List.any_eq_true]
      refine ⟨i,List.mem_range.2 (Array.getElem?_eq_some_iff.1 s).1,?_⟩
      simp only [Bool.and_eq_true,beq_iff_eq,Bool.not_eq_true']
      exact ⟨e,hi'.1⟩))
     unfold Oper.eff
     rw [hr]
     exact t _ _ _ ((l _ _ _).trans q) f F
   ·rw [if_neg C] at h1 ⊢
    exact t _ _ _ ((l _ _ _).trans q) f h1
def hH (P:Program) (ops:Array Oper) (B:World->Prop) (k:Nat) (o:Oper) (a:Act) (v:Value):Prop :=
 (Region.wanted o (yielded ops a.tmps)=true/\q3c P B k o a v)∨(Region.wanted o (yielded ops a.tmps)=false/\v=undef)
theorem j1s {i j:Nat} {oi oj:Oper} {v:Value} (p:ops[j]? = some oj) (c:oi.apart ops oj=true) (d:∀cs b,oi.op≠.select cs b) (e:∀cs b,oj.op≠.select cs b)
  {K K':Act->World->Prop} {a:Act} {w:World} (r:hH P ops B (qC kd i) oi a v)
  (n:∀u w',hH P ops B (qC kd i) oi (a.put oj.dst u) v->K ((a.put oj.dst u).put oi.dst v) w'->K' (a.put oj.dst u) w')
  (h:aC P md ops B kd Qp j K (a.put oi.dst v) w):aC P md ops B kd Qp j K' a w:=by
 obtain ⟨h1,h2,f⟩:=Oper.apart_spec c
 have keep:∀u,hH P ops B (qC kd i) oi (a.put oj.dst u) v:=fun u=>by
  unfold hH q3c at *
  rw [execOp_put oi d a oj.dst u f,wanted_put oi a oj.dst u f]
  exact r
 have hw':=wanted_put oj a oi.dst v h1
 have he':=execOp_put oj e a oi.dst v h1
 unfold aC at *
 simp only [p] at h ⊢
 rw [hw'] at h
 have fin:∀u w',K ((a.put oi.dst v).put oj.dst u) w'->K' (a.put oj.dst u) w':=fun u w' o=>n u w' (keep u) (by rw [<- Act.put_comm a v u h2];exact o)
 by_cases m:Region.wanted oj (yielded ops a.tmps)=true
 ·rw [if_pos m] at h ⊢
  by_cases g:qC kd j=0
  ·rw [if_pos g] at h ⊢
   unfold Oper.eff at *
   rw [he'] at h
   exact qB h (fun u w' l=>⟨l.1,fin u w' l.2⟩) (fun _ _ h=>h)
  ·rw [if_neg g] at h ⊢
   obtain ⟨u,k,q⟩:=h
   refine ⟨u,?_,fin u w q⟩
   unfold q3c at *
   rw [he'] at k
   exact k
 ·rw [if_neg m] at h ⊢;exact fin undef w h
theorem z1a {i:Nat} {oi:Oper} {v:Value} (c:ops[i]? = some oi) (d:qC kd i≠0) {K:Act->World->Prop} {a:Act} {w:World} (f:hH P ops B (qC kd i) oi a v)
  (h:K (a.put oi.dst v) w):aC P md ops B kd Qp i K a w:=by
 unfold aC
 simp only [c]
 rcases f with ⟨b,e⟩ | ⟨b,rfl⟩
 ·rw [if_pos b,if_neg d];exact ⟨v,e,h⟩
 ·rw [if_neg (by simp [b])];exact h
theorem y7u {Q:Act->World->Prop} {i:Nat} {oi:Oper} {v:Value} (z:ops[i]? = some oi) (g:∀(j:Nat) (o:Oper) cs b,ops[j]? = some o->o.op≠.select cs b) (E:qC kd i≠0) :
  ∀(n:Nat) (listed:Array Bool) (a:Act) (w:World),
   (∀j oj,ops[j]? = some oj->j≠i->listed.getD j true=false->(∀e∈oj.after,Region.binds md e=true->e.on≠i)->oi.apart ops oj=true) ->
   i∈Region.ready md ops listed->hH P ops B (qC kd i) oi a v ->
   q5n P md ops B kd Qp Q n (listed.setIfInBounds i true) (a.put oi.dst v) w->q5n P md ops B kd Qp Q (n+1) listed a w:=by
 intro n
 induction n with
 | zero=>
  intro listed a w _ hr t H
  refine ⟨fun h=>(by rw [h] at hr;cases hr),fun j s=>?_⟩
  by_cases c:j=i
  ·subst c;exact z1a z E t H
  ·have:=ready_mono s c
   rw [H.1] at this
   cases this
 | succ n G=>
  intro listed a w d hr t H
  refine ⟨fun h=>(by rw [h] at hr;cases hr),fun j s=>?_⟩
  by_cases c:j=i
  ·subst c;exact z1a z E t H
  ·have h1:=H.2 j (ready_mono s c)
   obtain ⟨f,oj,l,m⟩:=mem_ready.1 s
   have q:∀e∈oj.after,Region.binds md e=true->e.on≠i:=fun e J hb y=>by
    have h1:=m e J hb
    have D:=(mem_ready.1 hr).1
    rw [y] at h1
    rcases Nat.lt_or_ge i listed.size with h' | h'
    ·simp [h'] at D h1;rw [D] at h1;cases h1
    ·simp [Array.getElem?_eq_none h'] at h1
   have hfree':∀k ok,ops[k]? = some ok->k≠i->(listed.setIfInBounds j true).getD k true=false ->
     (∀e∈ok.after,Region.binds md e=true->e.on≠i)->oi.apart ops ok=true:=fun k ok hk' A r C=>by
    refine d k ok hk' A ?_ C
    by_cases p:j=k
    ·subst p;exact f
    ·rw [getD_set_ne true p] at r;exact r
   refine j1s l (d j oj l c f q) (fun cs b=>g i oi cs b z) (fun cs b=>g j oj cs b l) t (fun u w' hy' F=>?_) h1
   refine G _ _ _ hfree' (ready_mono hr (Ne.symm c)) hy' ?_
   rw [Array.setIfInBounds_comm _ _ c]
   exact F
inductive Plan where
 | done
 | q (i:Nat) (p:Plan)
 | e (i:Nat) (p:Plan)
 | e2 (i j:Nat) (p r:Plan)
def sS (md:Region.Mode) (ops:Array Oper) (kd:List Nat):Plan->Array Bool->Bool
 | .done,l=>(Region.ready md ops l).isEmpty
 | .q i p,l=>(Region.ready md ops l).contains i&&Region.free md ops l i&&qC kd i != 0&&sS md ops kd p (l.setIfInBounds i true)
 | .e i p,l=>Region.ready md ops l==[i]&&qC kd i==0&&sS md ops kd p (l.setIfInBounds i true)
 | .e2 i j p r,l=>Region.ready md ops l==[i,j]&&qC kd i==0&&qC kd j==0&&sS md ops kd p (l.setIfInBounds i true)&&sS md ops kd r (l.setIfInBounds j true)
def Plan.len:Plan->Nat
 | .done=>0
 | .q _ p=>p.len+1
 | .e _ p=>p.len+1
 | .e2 _ _ p _=>p.len+1
def Plan.even:Plan->Bool
 | .done=>true
 | .q _ p=>p.even
 | .e _ p=>p.even
 | .e2 _ _ p r=>p.even&&r.even&&p.len==r.len
def yF (P:Program) (md:Region.Mode) (ops:Array Oper) (B:World->Prop) (kd:List Nat) (Qp:List PanicEntry->World->Prop) (Q:Act->World->Prop):Plan->Act->World->Prop
 | .done,a,w=>Q a w
 | .q i p,a,w=>aC P md ops B kd Qp i (yF P md ops B kd Qp Q p) a w
 | .e i p,a,w=>aC P md ops B kd Qp i (yF P md ops B kd Qp Q p) a w
 | .e2 i j p r,a,w=>aC P md ops B kd Qp i (yF P md ops B kd Qp Q p) a w/\aC P md ops B kd Qp j (yF P md ops B kd Qp Q r) a w
theorem kZ {Q:Act->World->Prop} (O:Region.noSelect ops=true):∀(p:Plan) (listed:Array Bool) (a:Act) (w:World),p.even=true->sS md ops kd p listed=true ->
  yF P md ops B kd Qp Q p a w->q5n P md ops B kd Qp Q p.len listed a w
 | .done,l,a,w,_,c,h=>⟨by simpa [sS] using c,h⟩
 | .q i p,l,a,w,b,c,h=>by
  simp only [sS,Bool.and_eq_true,List.contains_iff_mem,bne_iff_ne,ne_eq] at c
  obtain ⟨⟨⟨hr,s⟩,f⟩,c⟩:=c
  obtain ⟨_,o,g,_⟩:=mem_ready.1 hr
  unfold yF aC at h
  simp only [g] at h
  by_cases m:Region.wanted o (yielded ops a.tmps)=true
  ·rw [if_pos m,if_neg f] at h
   obtain ⟨v,h1,h2⟩:=h
   exact y7u g (Region.noSelect_spec O) f _ _ _ _ (Region.free_spec g s) hr (.inl ⟨m,h1⟩) (kZ O p _ _ _ b c h2)
  ·rw [if_neg m] at h
   exact y7u g (Region.noSelect_spec O) f _ _ _ _ (Region.free_spec g s) hr (.inr ⟨by simpa using m,rfl⟩) (kZ O p _ _ _ b c h)
 | .e i p,l,a,w,b,c,h=>by
  simp only [sS,Bool.and_eq_true,beq_iff_eq] at c
  obtain ⟨⟨hr,f⟩,c⟩:=c
  simp only [Plan.len,q5n]
  refine ⟨fun n=>(by rw [n] at hr;cases hr),fun j t=>?_⟩
  rw [hr,List.mem_singleton] at t
  subst t
  exact z7x (fun a' w' _ d=>kZ O p _ _ _ b c d) h
 | .e2 i j p r,l,a,w,b,c,h=>by
  simp only [sS,Bool.and_eq_true,beq_iff_eq] at c
  obtain ⟨⟨⟨⟨hr,f⟩,hk'⟩,c⟩,hp'⟩:=c
  simp only [Plan.even,Bool.and_eq_true,beq_iff_eq] at b
  simp only [Plan.len,q5n]
  refine ⟨fun n=>(by rw [n] at hr;cases hr),fun x k=>?_⟩
  rw [hr] at k
  rcases List.mem_cons.1 k with rfl | k
  ·exact z7x (fun a' w' _ d=>kZ O p _ _ _ b.1.1 c d) h.1
  ·rw [List.mem_singleton] at k
   subst k
   exact z7x (fun a' w' _ d=>by have:=kZ O r _ _ _ b.1.2 hp' d;rw [<- b.2] at this;exact this) h.2
def z6m (ops:Array Oper) (kd:List Nat) (p:Plan):Bool:=Region.noSelect ops&&p.even&&p.len==ops.size&&sS .any ops kd p (Array.replicate ops.size false)
theorem y7v {id:Nat} {l:List Oper} {Q:Exit->Act->World->Prop} {a:Act} {w:World} (kd:List Nat) (p:Plan) (B:World->Prop) (Qp:List PanicEntry->World->Prop)
  (N:P.follows .mixedOrders=true) (e:z6m l.toArray kd p=true) (g:∀c a w,a.defers=D->Qp c w->Q (.panic c) a w) (f:a.defers=D) (i:B { w with drawn:=w.drawn+1 })
  (h:yF P .any l.toArray B kd Qp (Q .normal) p a { w with drawn:=w.drawn+1 }):(Code.region id l.toArray true).wp P Q a w:=by
 simp only [z6m,Bool.and_eq_true,beq_iff_eq] at e
 obtain ⟨⟨⟨O,b⟩,hl⟩,d⟩:=e
 refine wp_region_any N (j0n (D:=D) (kd:=kd) (B:=B) (Qp:=Qp) (Q:=Q .normal) (fun _ _ h=>h) g _ _ _ _ f (fun _=>i) ?_)
 have:=kZ O p _ _ _ b d h
 rw [hl] at this
 exact this
end
end Go.Sw

namespace Go.Sw
variable {P:Program} {n:Nat} {E:List (Nat×Value)} {D:List Deferred} {a:Act} {V Ψ:Fz} {K:List Res} {w:World}
variable {dst:Option Tmp} {ty:TypeId} {pos:String} {aft:Array Edge} {g:Option (Nat×Bool)}
def Ok (P:Program) (a:Act) (op:Op) (ty:TypeId) (w:World) (v:Value):Prop :=
 ∀(dst:Option Tmp) (pos:String) (aft:Array Edge) (g:Option (Nat×Bool)),(execOp a.eval ⟨dst,op,ty,pos,aft,g⟩).run P w=.ok (.value v) w
abbrev Scalar (P:Program) (t:TypeId):Prop:=∀w,(isAgg t).run P w=.ok false w
abbrev AggT (P:Program) (t:TypeId):Prop:=∀w,(isAgg t).run P w=.ok true w
abbrev Under (P:Program) (t:TypeId) (d:TypeDesc):Prop:=∀w,(underlying t).run P w=.ok d w
abbrev SizeT (P:Program) (t:TypeId) (k:Nat):Prop:=∀w,(sizeOf t).run P w=.ok k w
abbrev ZeroT (P:Program) (t:TypeId) (v:Value):Prop:=∀w,(zeroValue t).run P w=.ok v w
theorem Ok.cast {op:Op} {v v':Value} (h:Ok P a op ty w v) (e:v=v'):Ok P a op ty w v':=e▸h
theorem xZ {x:Operand} {v:Value} (J:EnvR n E D a) (b:ev E x=some v):Ok P a (.move x) ty w v:=fun _ _ _ _=>by
 simp only [execOp,J.ev b];rfl
theorem dV {x:Operand} {v:Value} (J:EnvR n E D a) (b:ev E x=some v):Ok P a (.assign x) ty w v:=fun _ _ _ _=>by
 simp only [execOp,J.ev b];rfl
theorem y_pick {c x y:Operand} {v:Value} {b:Bool} (J:EnvR n E D a) (d:ev E c=some (.bool b)) (e:ev E (if b then x else y)=some v):Ok P a (.pick c x y) ty w v:=fun _ _ _ _=>by
 cases b with
 | true=>simp only [execOp,J.ev d,J.ev (show ev E x=some v from e)];rfl
 | false=>simp only [execOp,J.ev d,J.ev (show ev E y=some v from e)];rfl
theorem nT {o:BinOp} {t t':TypeId} {x y:Operand} {vx vy v:Value} (J:EnvR n E D a) (c:ev E x=some vx) (d:ev E y=some vy)
  (b:(eqGuard o t x y vx vy).run P w=.ok () w) (hb:(binOp o t vx vy).run P w=.ok v w):Ok P a (.binOp o t x y t') ty w v:=fun _ _ _ _=>by
 simp only [execOp,J.ev c,J.ev d]
 simp [Sem.run_bind,b,hb,Result.andThen]
theorem z2h {o:BinOp} {t t':TypeId} {x y:Operand} {k:IntKind} {i j:Int} {v:Value} (J:EnvR n E D a) (b:ev E x=some (.int k i)) (c:ev E y=some (.int k j))
  (hb:(binOp o t (.int k i) (.int k j)).run P w=.ok v w):Ok P a (.binOp o t x y t') ty w v :=
 nT J b c (by cases o <;> rfl) hb
theorem z0p {t t':TypeId} {x y:Operand} {k:IntKind} {i j:Int} (z:Int) (J:EnvR n E D a) (b:ev E x=some (.int k i)) (c:ev E y=some (.int k j))
  (d:k.wrap (i+j)=z):Ok P a (.binOp .add t x y t') ty w (.int k z) :=
 z2h J b c (by subst d;simp [binOp,Op.intArith])
theorem yB {i:Int} (h:-9223372036854775808<=i/\i<=9223372036854775807):IntKind.i64.wrap i=i:=by
 simp only [IntKind.wrap,IntKind.signed,IntKind.bits]
 simp
 omega
theorem pH {t t':TypeId} {x y:Operand} {i j:Nat} (J:EnvR n E D a) (b:ev E x=some (.int .i64 (i:Int))) (c:ev E y=some (.int .i64 (j:Int)))
  (d:i+j<=9223372036854775807):Ok P a (.binOp .add t x y t') ty w (.int .i64 ((i+j:Nat):Int)) :=
 z0p _ J b c (by rw [yB (by omega)];omega)
theorem jT {t t':TypeId} {x y:Operand} {k:IntKind} {i j:Int} (z:Int) (J:EnvR n E D a) (b:ev E x=some (.int k i)) (c:ev E y=some (.int k j))
  (d:k.wrap (i - j)=z):Ok P a (.binOp .sub t x y t') ty w (.int k z) :=
 z2h J b c (by subst d;simp [binOp,Op.intArith])
theorem j8a {t t':TypeId} {x y:Operand} {k:IntKind} {i j:Int} (z:Int) (J:EnvR n E D a) (b:ev E x=some (.int k i)) (c:ev E y=some (.int k j))
  (d:k.wrap (i * j)=z):Ok P a (.binOp .mul t x y t') ty w (.int k z) :=
 z2h J b c (by subst d;simp [binOp,Op.intArith])
theorem y_quo {t t':TypeId} {x y:Operand} {k:IntKind} {i j:Int} (z:Int) (J:EnvR n E D a) (c:ev E x=some (.int k i)) (d:ev E y=some (.int k j))
  (b:j≠0) (e:k.wrap (i.tdiv j)=z):Ok P a (.binOp .quo t x y t') ty w (.int k z) :=
 z2h J c d (by subst e;simp [binOp,Op.intDiv,b])
theorem y_rem {t t':TypeId} {x y:Operand} {k:IntKind} {i j:Int} (z:Int) (J:EnvR n E D a) (c:ev E x=some (.int k i)) (d:ev E y=some (.int k j))
  (b:j≠0) (e:i.tmod j=z):Ok P a (.binOp .rem t x y t') ty w (.int k z) :=
 z2h J c d (by subst e;simp [binOp,Op.intDiv,b])
theorem xH {t t':TypeId} {x y:Operand} {k:IntKind} {i j:Int} (b:Bool) (J:EnvR n E D a) (c:ev E x=some (.int k i)) (d:ev E y=some (.int k j))
  (hb:decide (i=j)=b):Ok P a (.binOp .eql t x y t') ty w (.bool b) :=
 z2h J c d (by subst hb;simp [binOp,Op.intCmp];rfl)
theorem oV {t t':TypeId} {x y:Operand} {k:IntKind} {i j:Int} (b:Bool) (J:EnvR n E D a) (c:ev E x=some (.int k i)) (d:ev E y=some (.int k j))
  (hb:(!decide (i=j))=b):Ok P a (.binOp .neq t x y t') ty w (.bool b) :=
 z2h J c d (by subst hb;simp [binOp,Op.intCmp];rfl)
theorem j0x {t t':TypeId} {x y:Operand} {k:IntKind} {i j:Int} (b:Bool) (J:EnvR n E D a) (c:ev E x=some (.int k i)) (d:ev E y=some (.int k j))
  (hb:decide (i < j)=b):Ok P a (.binOp .lss t x y t') ty w (.bool b) :=
 z2h J c d (by subst hb;simp [binOp,Op.intCmp])
theorem q2y {t t':TypeId} {x y:Operand} {k:IntKind} {i j:Int} (b:Bool) (J:EnvR n E D a) (c:ev E x=some (.int k i)) (d:ev E y=some (.int k j))
  (hb:decide (i<=j)=b):Ok P a (.binOp .leq t x y t') ty w (.bool b) :=
 z2h J c d (by subst hb;simp [binOp,Op.intCmp])
theorem q2x {t t':TypeId} {x y:Operand} {k:IntKind} {i j:Int} (b:Bool) (J:EnvR n E D a) (c:ev E x=some (.int k i)) (d:ev E y=some (.int k j))
  (hb:decide (j < i)=b):Ok P a (.binOp .gtr t x y t') ty w (.bool b) :=
 z2h J c d (by subst hb;simp [binOp,Op.intCmp])
theorem j0u {t t':TypeId} {x y:Operand} {k:IntKind} {i j:Int} (b:Bool) (J:EnvR n E D a) (c:ev E x=some (.int k i)) (d:ev E y=some (.int k j))
  (hb:decide (j<=i)=b):Ok P a (.binOp .geq t x y t') ty w (.bool b) :=
 z2h J c d (by subst hb;simp [binOp,Op.intCmp])
theorem z0a (s t:ByteArray):(s.toList==t.toList)=decide (s=t):=by
 rw [Bool.eq_iff_iff]
 simp only [beq_iff_eq,decide_eq_true_eq,ByteArray.toList_eq]
 constructor
 ·intro h
  cases s;cases t;simp_all
 ·rintro rfl;rfl
theorem q5r {t t':TypeId} {x y:Operand} {s u:ByteArray} (b:Bool) (J:EnvR n E D a) (c:ev E x=some (.string s)) (d:ev E y=some (.string u))
  (hb:decide (s=u)=b):Ok P a (.binOp .eql t x y t') ty w (.bool b) :=
 nT J c d rfl (by subst hb;simp [binOp,Op.stringOp,z0a])
theorem j5f {t t':TypeId} {x y:Operand} {s u:ByteArray} (b:Bool) (J:EnvR n E D a) (c:ev E x=some (.string s)) (d:ev E y=some (.string u))
  (hb:(!decide (s=u))=b):Ok P a (.binOp .neq t x y t') ty w (.bool b) :=
 nT J c d rfl (by subst hb;simp [binOp,Op.stringOp,z0a])
theorem y_lssD {t t':TypeId} {x y:Operand} {k:IntKind} {i j:Int} (J:EnvR n E D a) (b:ev E x=some (.int k i)) (c:ev E y=some (.int k j)):Ok P a (.binOp .lss t x y t') ty w (.bool (decide (i < j))):=j0x _ J b c rfl
theorem z5d {t t':TypeId} {x y:Operand} {k:IntKind} {i j:Int} (J:EnvR n E D a) (b:ev E x=some (.int k i)) (c:ev E y=some (.int k j)):Ok P a (.binOp .geq t x y t') ty w (.bool (decide (j<=i))):=j0u _ J b c rfl
theorem aR {t t':TypeId} {x y:Operand} {k:IntKind} {i j:Int} (J:EnvR n E D a) (b:ev E x=some (.int k i)) (c:ev E y=some (.int k j)):Ok P a (.binOp .eql t x y t') ty w (.bool (decide (i=j))):=xH _ J b c rfl
theorem j5d {t t':TypeId} {x y:Operand} {k:IntKind} {i j:Nat} (J:EnvR n E D a) (b:ev E x=some (.int k (i:Int))) (c:ev E y=some (.int k (j:Int))):Ok P a (.binOp .leq t x y t') ty w (.bool (decide (i<=j))):=q2y _ J b c (decide_eq_decide.2 Int.ofNat_le)
theorem j5c {t t':TypeId} {x y:Operand} {k:IntKind} {i j:Nat} (J:EnvR n E D a) (b:ev E x=some (.int k (i:Int))) (c:ev E y=some (.int k (j:Int))):Ok P a (.binOp .gtr t x y t') ty w (.bool (decide (j < i))):=q2x _ J b c (decide_eq_decide.2 Int.ofNat_lt)
theorem pR {t t':TypeId} {x y:Operand} {k:IntKind} {i j:Nat} (J:EnvR n E D a) (b:ev E x=some (.int k (i:Int))) (c:ev E y=some (.int k (j:Int))):Ok P a (.binOp .eql t x y t') ty w (.bool (decide (i=j))):=xH _ J b c (decide_eq_decide.2 (by omega))
theorem z3f {t t':TypeId} {x y:Operand} {s u:ByteArray} (J:EnvR n E D a) (b:ev E x=some (.string s)) (c:ev E y=some (.string u)):Ok P a (.binOp .eql t x y t') ty w (.bool (decide (s=u))):=q5r _ J b c rfl
theorem j8b {t t':TypeId} {x y:Operand} {s u:ByteArray} (J:EnvR n E D a) (b:ev E x=some (.string s)) (c:ev E y=some (.string u)):Ok P a (.binOp .neq t x y t') ty w (.bool (!decide (s=u))):=j5f _ J b c rfl
theorem vF {t t':TypeId} {x y:Operand} {s u:ByteArray} (J:EnvR n E D a) (b:ev E x=some (.string s)) (c:ev E y=some (.string u))
  (hb:s.size+u.size<=9223372036854775807):Ok P a (.binOp .add t x y t') ty w (.string (s++u)) :=
 nT J b c rfl (by
  have:¬(((s.size+u.size:Nat):Int) > IntKind.i64.max):=by simp [IntKind.max,IntKind.signed,IntKind.bits];omega
  simp only [binOp,Op.stringOp,if_neg this];rfl)
theorem q3a {x:Operand} {t:TypeId} {b:Bool} (J:EnvR n E D a) (c:ev E x=some (.bool b)):Ok P a (.unOp .not t x) ty w (.bool (!b)):=fun _ _ _ _=>by
 simp only [execOp,J.ev c];rfl
theorem y_neg {x:Operand} {t:TypeId} {k:IntKind} {i:Int} (z:Int) (J:EnvR n E D a) (b:ev E x=some (.int k i)) (c:k.wrap (0 - i)=z):Ok P a (.unOp .neg t x) ty w (.int k z):=fun _ _ _ _=>by
 subst c;simp only [execOp,J.ev b];simp [Op.unary,Op.intArith,Sem.run_bind,Result.andThen]
theorem cV {x:Operand} {i:Nat} {vs:List Value} {v:Value} (J:EnvR n E D a) (c:ev E x=some (.tuple vs.toArray)) (b:vs[i]? = some v):Ok P a (.extract x i) ty w v:=fun _ _ _ _=>by
 simp only [execOp,J.ev c];simp [Instr.extract,b,Sem.run_bind,Result.andThen]
theorem z5e {x:Operand} {p:Addr} (J:EnvR n E D a) (b:ev E x=some (.pointer (some p))):Ok P a (.nilCheck x) ty w (.pointer (some p)):=fun _ _ _ _=>by
 simp only [execOp,J.ev b];rfl
theorem z0k {fn:Fn} {fs cs:Array Operand} {vfs vcs:List Value} (J:EnvR n E D a) (c:evs E fs.toList=some vfs) (b:evs E cs.toList=some vcs) :
  Ok P a (.makeFunc fn fs cs) ty w (.func fn vfs.toArray vcs.toArray):=fun _ _ _ _=>by
 simp only [execOp,J.evsA c,J.evsA b];rfl
theorem qN {t:TypeId} {x:Operand} {v:Value} {d:TypeDesc} (J:EnvR n E D a) (e:ev E x=some v) (c:Under P t d) (b:∀ms,d≠.interface ms) :
  Ok P a (.makeInterface t x) ty w (.iface t v):=fun _ _ _ _=>by
 simp only [execOp,J.ev e]
 have:=c w
 simp only [Instr.makeInterface,Sem.run_bind,this,Result.andThen]
 cases d <;> first | rfl | exact absurd rfl (b _)
def nth:List Value->Nat->Option Value
 | [],_=>none
 | v::_,0=>some v
 | _::l,i+1=>nth l i
def z3o (l:List Value):Nat->List Value
 | 0=>l
 | i+1=>(z3o l i).tail
def z3p:List Value->Nat->List Value
 | _,0=>[]
 | [],_+1=>[]
 | x::l,i+1=>x::z3p l i
theorem z4n:∀(l:List Value) (i:Nat),nth l i=l[i]?
 | [],_=>rfl
 | _::_,0=>rfl
 | _::l,i+1=>by simp only [nth,z4n l i,List.getElem?_cons_succ]
theorem z1i (l:List Value):∀(i:Nat),z3o l i=l.drop i
 | 0=>rfl
 | i+1=>by simp [z3o,z1i l i]
theorem z1m:∀(l:List Value) (i:Nat),z3p l i=l.take i
 | l,0=>by cases l <;> rfl
 | [],_+1=>rfl
 | _::l,i+1=>by simp only [z3p,z1m l i,List.take_succ_cons]
def y1f:List Value->List Value->List Value
 | [],cs=>cs
 | v::vs,[]=>v::vs
 | v::vs,_::cs=>v::y1f vs cs
theorem j7d:∀(vs cs:List Value),y1f vs cs=vs++cs.drop vs.length
 | [],cs=>by simp [y1f]
 | v::vs,[]=>by simp [y1f]
 | v::vs,_::cs=>by simp [y1f,j7d vs cs]
def nH:List Value->Nat->List Value->List Value
 | cs,0,vs=>y1f vs cs
 | [],_+1,vs=>vs
 | c::cs,i+1,vs=>c::nH cs i vs
theorem q2k:∀(cs:List Value) (off:Nat) (vs:List Value),nH cs off vs=cs.take off++(vs++cs.drop (off+vs.length))
 | cs,0,vs=>by cases cs <;> simp [nH,j7d]
 | [],_+1,vs=>by simp [nH]
 | c::cs,i+1,vs=>by
  simp only [nH,q2k cs i vs,List.take_succ_cons,List.cons_append]
  rw [show i+1+vs.length=(i+vs.length)+1 by omega,List.drop_succ_cons]
def ob (cs:List Value) (t:TypeId):Obj:=.cells cs.toArray t (0,0)
theorem Sees.cell (N:Sees V K w) {i b:Nat} {cs:List Value} {t:TypeId} (a:qH K i=some (.blk b (ob cs t))) (j:Nat):w.cell? ⟨b,j,none⟩=nth cs j:=by
 have:w.heap[b]? = some (ob cs t):=N.own _ (yQ a)
 simp [World.cell?,this,ob,z4n]
theorem Sees.at (N:Sees V K w) {p:Addr} {cs:List Value} (d:At V p cs):∀j v,cs[j]? = some v->w.cell? (p.add j)=some v:=by
 intro j v f
 obtain ⟨arr,T,fr,h1,h2⟩:=d.ex
 have O:=d.spot
 have c:=N.fz _ _ h1
 have a:=h2 j v f
 cases p with
 | mk b o s=>
  simp only at O a c
  subst O
  have e:(⟨b,o,none⟩:Addr).add j=⟨b,o+j,none⟩:=by
   unfold Addr.add;split
   ·subst_vars;rfl
   ·rfl
  rw [e]
  simp [World.cell?,c,a]
theorem pC (i:Nat) {x:Operand} {T:TypeId} {b off:Nat} {cs:List Value} {t:TypeId} {v:Value} (J:EnvR n E D a) (N:Sees V K w)
  (f:ev E x=some (.pointer (some ⟨b,off,none⟩))) (d:qH K i=some (.blk b (ob cs t))) (e:nth cs off=some v) (c:Scalar P T):Ok P a (.load T x) ty w v:=fun _ _ _ _=>by
 have h1:=N.cell d off
 rw [e] at h1
 simp only [execOp,J.ev f]
 simp [Instr.loadAt,Instr.sureAddr,loadVar,Sem.run_bind,c w,Result.andThen,load,Sem.run,h1]
theorem qY (i:Nat) {x:Operand} {T:TypeId} {b off k:Nat} {cs vs:List Value} {t:TypeId} (J:EnvR n E D a) (N:Sees V K w)
  (m:ev E x=some (.pointer (some ⟨b,off,none⟩))) (l:qH K i=some (.blk b (ob cs t))) (g:AggT P T) (f:SizeT P T k) (e:z3p (z3o cs off) k=vs) (hl:vs.length=k) :
  Ok P a (.load T x) ty w (.agg vs.toArray):=fun _ _ _ _=>by
 have h:∀j v,vs[j]? = some v->w.cell? ((⟨b,off,none⟩:Addr).add j)=some v:=fun j v c=>by
  have h1:=N.cell l (off+j)
  rw [z1m,z1i] at e
  have d:j < k:=by rw [<- hl];exact (List.getElem?_eq_some_iff.1 c).1
  rw [<- e,List.getElem?_take_of_lt d,List.getElem?_drop] at c
  rw [z4n,c] at h1
  unfold Addr.add;split
  ·subst_vars;simpa using h1
  ·exact h1
 have h2:=run_loadCells_list (P:=P) (w:=w) ⟨b,off,none⟩ vs h
 rw [hl] at h2
 simp only [execOp,J.ev m]
 simp [Instr.loadAt,Instr.sureAddr,loadVar,Sem.run_bind,g w,f w,Result.andThen,h2]
theorem q2z {x:Operand} {T:TypeId} {p:Addr} {cs:List Value} {v:Value} (j:Nat) (J:EnvR n E D a) (N:Sees V K w)
  (e:ev E x=some (.pointer (some (p.add j)))) (d:At V p cs) (b:nth cs j=some v) (c:Scalar P T):Ok P a (.load T x) ty w v:=fun _ _ _ _=>by
 rw [z4n] at b
 have h1:=N.at d j v b
 simp only [execOp,J.ev e]
 simp [Instr.loadAt,Instr.sureAddr,loadVar,Sem.run_bind,c w,Result.andThen,load,Sem.run,h1]
theorem add_zero (p:Addr):p.add 0=p:=by simp [Addr.add]
theorem j5j (p:Addr) (i j:Nat) (a:p.spot=none):(p.add i).add j=p.add (i+j):=by
 cases p with
 | mk b o s=>
  simp only at a;subst a
  unfold Addr.add
  by_cases c:i=0 <;> by_cases d:j=0 <;> simp_all <;> omega
theorem j5e {x:Operand} {T:TypeId} {p:Addr} {cs:List Value} {v:Value} (J:EnvR n E D a) (N:Sees V K w)
  (e:ev E x=some (.pointer (some p))) (c:At V p cs) (d:nth cs 0=some v) (b:Scalar P T):Ok P a (.load T x) ty w v :=
 q2z 0 J N (by rw [add_zero];exact e) c d b
theorem vY {x:Operand} {T:TypeId} {p:Addr} {k:Nat} {cs vs:List Value} (j:Nat) (J:EnvR n E D a) (N:Sees V K w)
  (l:ev E x=some (.pointer (some (p.add j)))) (d:At V p cs) (g:AggT P T) (f:SizeT P T k) (e:z3p (z3o cs j) k=vs) (hl:vs.length=k) :
  Ok P a (.load T x) ty w (.agg vs.toArray):=fun _ _ _ _=>by
 have h:∀i v,vs[i]? = some v->w.cell? ((p.add j).add i)=some v:=fun i v b=>by
  rw [z1m,z1i] at e
  have c:i < k:=by rw [<- hl];exact (List.getElem?_eq_some_iff.1 b).1
  rw [<- e,List.getElem?_take_of_lt c,List.getElem?_drop] at b
  rw [j5j p j i d.spot]
  exact N.at d _ v b
 have h2:=run_loadCells_list (P:=P) (w:=w) (p.add j) vs h
 rw [hl] at h2
 simp only [execOp,J.ev l]
 simp [Instr.loadAt,Instr.sureAddr,loadVar,Sem.run_bind,g w,f w,Result.andThen,h2]
theorem j0w {x:Operand} {T:TypeId} {p:Addr} {k:Nat} {cs:List Value} (J:EnvR n E D a) (N:Sees V K w)
  (e:ev E x=some (.pointer (some p))) (d:At V p cs) (c:AggT P T) (b:SizeT P T k) (hl:cs.length=k) :
  Ok P a (.load T x) ty w (.agg cs.toArray) :=
 vY 0 J N (by rw [add_zero];exact e) d c b (by rw [z1m,z1i,<- hl];simp) hl
def zM (P:Program) (s:TypeId) (f off:Nat):Prop:=∀(p:Addr) (w:World),(Instr.fieldAt s (.pointer (some p)) f).run P w=.ok (.pointer (some (p.add off))) w
theorem zG {s:TypeId} {fs:Array Field} {f off k:Nat} {fd:Field} (d:Under P s (.struct fs)) (a:fs[f]? = some fd) (O:SizeT P fd.type k) (b:k≠0) (c:fd.offset=off):zM P s f off:=fun p w=>by
 subst c
 simp [Instr.fieldAt,d w,a,Instr.sureAddr,fieldPlace,O w,b]
theorem z2f {x:Operand} {s:TypeId} {f off:Nat} {p:Addr} (J:EnvR n E D a) (c:ev E x=some (.pointer (some p))) (b:zM P s f off) :
  Ok P a (.fieldAddr s x f) ty w (.pointer (some (p.add off))):=fun _ _ _ _=>by
 simp only [execOp,J.ev c]
 simp [Sem.run_bind,b p w,Result.andThen]
theorem mZ {x:Operand} {s:TypeId} {f off b o z:Nat} (J:EnvR n E D a) (d:ev E x=some (.pointer (some ⟨b,o,none⟩))) (c:zM P s f off) (g:o+off=z) :
  Ok P a (.fieldAddr s x f) ty w (.pointer (some ⟨b,z,none⟩)):=by
 have h:=z2f (P:=P) (ty:=ty) (w:=w) J d c
 have e:(⟨b,o,none⟩:Addr).add off=⟨b,z,none⟩:=by
  subst g
  unfold Addr.add;split
  ·subst_vars;rfl
  ·rfl
 rwa [e] at h
theorem y7x {x:Operand} {s:TypeId} {f off j z:Nat} {p:Addr} {cs:List Value} (J:EnvR n E D a) (d:ev E x=some (.pointer (some (p.add j)))) (c:At V p cs) (b:zM P s f off) (e:j+off=z) :
  Ok P a (.fieldAddr s x f) ty w (.pointer (some (p.add z))):=by
 have h:=z2f (P:=P) (ty:=ty) (w:=w) J d b
 rw [j5j p j off c.spot,e] at h
 exact h
theorem z2g (i:Nat) {x ix:Operand} {t e:TypeId} {kk:IntKind} {p:Addr} {len cap k:Nat} (J:EnvR n E D a) (d:ev E x=some (.slice (some p) len cap))
  (b:ev E ix=some (.int kk (i:Int))) (c:Under P t (.slice e)) (O:SizeT P e k) (hb:i < len) :
  Ok P a (.indexAddr t x ix) ty w (.pointer (some (p.add (i * k)))):=fun _ _ _ _=>by
 simp only [execOp,J.ev d,J.ev b]
 simp [Instr.indexAt,asIntOf,Sem.run_bind,c w,O w,Result.andThen,hb]
theorem j7z {x:Operand} {t:TypeId} {fs:Array Field} {i:Nat} {fd:Field} {cs:List Value} {v:Value} (e:Under P t (.struct fs)) (d:fs[i]? = some fd) (c:Scalar P fd.type)
  (J:EnvR n E D a) (f:ev E x=some (.agg cs.toArray)) (b:nth cs fd.offset=some v):Ok P a (.field t x i) ty w v:=fun _ _ _ _=>by
 rw [z4n] at b
 simp only [execOp,J.ev f]
 have hv':cs.toArray[fd.offset]? = some v:=by simpa using b
 simp [Instr.field,Sem.run_bind,e w,d,asAgg,part,c w,Result.andThen,b]
theorem yZ (i:Nat) (c:UInt8) {x ix:Operand} {t:TypeId} {kk:IntKind} {s:ByteArray} (J:EnvR n E D a) (f:ev E x=some (.string s))
  (d:ev E ix=some (.int kk (i:Int))) (e:Under P t .string) (b:s[i]? = some c):Ok P a (.index t x ix) ty w (.int .u8 c.toNat):=fun _ _ _ _=>by
 simp only [execOp,J.ev f,J.ev d]
 simp [Instr.index,asIntOf,Sem.run_bind,e w,Result.andThen,b]
theorem y0w {x:Operand} {t e:TypeId} {p:Option Addr} {len cap:Nat} (J:EnvR n E D a) (c:ev E x=some (.slice p len cap)) (b:Under P t (.slice e)) :
  Ok P a (.call { callee:=.builtin .len,args:=#[x],argTypes:=#[t] }) ty w (.int .i64 (len:Int)):=fun _ _ _ _=>by
 simp only [execOp,resolve]
 simp [Sem.run_bind,Result.andThen,invoke,builtin,J.ev c,Builtin.len_,b w,goInt]
theorem x2f {x:Operand} {t:TypeId} {s:ByteArray} (J:EnvR n E D a) (c:ev E x=some (.string s)) (b:Under P t .string) :
  Ok P a (.call { callee:=.builtin .len,args:=#[x],argTypes:=#[t] }) ty w (.int .i64 (s.size:Int)):=fun _ _ _ _=>by
 simp only [execOp,resolve]
 simp [Sem.run_bind,Result.andThen,invoke,builtin,J.ev c,Builtin.len_,b w,goInt]
theorem qS {x:Operand} {t:TypeId} {lo d:Option Operand} {s:ByteArray} (l h:Nat) (J:EnvR n E D a) (e:ev E x=some (.string s)) (c:Under P t .string)
  (hl:match lo with | none=>l=0 | some o=>∃k,ev E o=some (.int k (l:Int))) (b:match d with | none=>h=s.size | some o=>∃k,ev E o=some (.int k (h:Int))) (h1:l<=h) (h2:h<=s.size) :
  Ok P a (.slice t x lo d none) ty w (.string (s.extract l h)):=fun _ _ _ _=>by
 simp only [execOp,J.ev e,Instr.sliceAt]
 cases lo <;> cases d <;> simp only at hl b
 ·subst hl;subst b
  simp [Sem.run_bind,c w,Instr.slice,Instr.sliceBounds]
 ·obtain ⟨k,b⟩:=b;subst hl
  simp [Sem.run_bind,c w,Instr.slice,Instr.sliceBounds,J.ev b,Instr.sliceBound,asIntOf,h2]
 ·obtain ⟨k,hl⟩:=hl;subst b
  simp [Sem.run_bind,c w,Instr.slice,Instr.sliceBounds,J.ev hl,Instr.sliceBound,asIntOf,h1]
 ·obtain ⟨k,hl⟩:=hl;obtain ⟨k',b⟩:=b
  simp [Sem.run_bind,c w,Instr.slice,Instr.sliceBounds,J.ev hl,J.ev b,Instr.sliceBound,asIntOf,h1,h2]
variable {Kn:Value->World->Prop} {Qp:List PanicEntry->World->Prop} {op:Op} {v:Value} {d:Nat}
theorem pY (b:Ok P a op ty w v) (k:Kn v w):Oper.eff P ⟨dst,op,ty,pos,aft,g⟩ a w Kn Qp:=by
 unfold Oper.eff;rw [b];exact k
theorem cY {w:World} {o:Obj} {b:Nat} (hb:b < w.heap.size):({ w with heap:=w.heap.push o }:World).heap[b]? = w.heap[b]? := by
 simp only;rw [Array.getElem?_push_lt hb,<- Array.getElem?_eq_getElem hb]
theorem Mem.push (N:Mem V K w) (o:Obj):Mem V (.blk w.heap.size o::K) { w with heap:=w.heap.push o } :=
 N.more rfl rfl (fun b hb=>cY hb) (by simp [Res.sat]) (by simp [Res.foot])
theorem wN {T:TypeId} {z:Value} {cs:List Value} (N:Mem V K w) (d:ZeroT P T z) (c:z.cells.toList=cs)
  (k:∀b w',Mem V (.blk b (ob cs T)::K) w'->Kn (.pointer (some ⟨b,0,none⟩)) w'):Oper.eff P ⟨dst,.alloc T,ty,pos,aft,g⟩ a w Kn Qp:=by
 unfold Oper.eff
 have:(execOp a.eval ⟨dst,.alloc T,ty,pos,aft,g⟩).run P w=.ok (.value (.pointer (some ⟨w.heap.size,0,none⟩))) { w with heap:=w.heap.push (ob cs T) }:=by
  subst c
  simp [execOp,Instr.alloc,Sem.run_bind,d w,newVar,newRow,ob]
 rw [this]
 exact k _ _ (N.push _)
theorem j6a {T:TypeId} {x:Operand} {v:Value} {cs:List Value} (J:EnvR n E D a) (N:Mem V K w) (d:ev E x=some v) (c:v.cells.toList=cs)
  (k:∀b w',Mem V (.blk b (ob cs T)::K) w'->Kn (.pointer (some ⟨b,0,none⟩)) w'):Oper.eff P ⟨dst,.box T x,ty,pos,aft,g⟩ a w Kn Qp:=by
 unfold Oper.eff
 have:(execOp a.eval ⟨dst,.box T x,ty,pos,aft,g⟩).run P w=.ok (.value (.pointer (some ⟨w.heap.size,0,none⟩))) { w with heap:=w.heap.push (ob cs T) }:=by
  subst c
  simp [execOp,Instr.box,Sem.run_bind,newVar,newRow,ob,J.ev d]
 rw [this]
 exact k _ _ (N.push _)
theorem qF (i:Nat) {x y:Operand} {T d:TypeId} {b off k:Nat} {v:Value} {cs vs:List Value} (J:EnvR n E D a) (N:Mem V K w)
  (q:ev E x=some (.pointer (some ⟨b,off,none⟩))) (r:ev E y=some v) (l:qH K i=some (.blk b (ob cs d))) (f:v.cells.toList=vs) (m:SizeT P T k) (hl:vs.length=k)
  (h1:vs.all Value.oneCell'=true) (o:Nat.ble (off+vs.length) cs.length=true)
  (kk:∀w',Mem V (wI K i (.blk b (ob (nH cs off vs) d))) w'->Kn undef w'):Oper.eff P ⟨dst,.store T x y,ty,pos,aft,g⟩ a w Kn Qp:=by
 have hb:w.heap[b]? = some (.cells cs.toArray d (0,0)):=N.own _ (yQ l)
 have hf':off+vs.length<=cs.length:=by simpa using o
 have hr:=run_storeCells_at P b off d vs 0 cs.toArray w hb (by simpa using hf') (fun v p=>List.all_eq_true.1 h1 v p)
 have j:v.cells.size=k:=by rw [<- hl,<- f];simp
 unfold Oper.eff
 have:(execOp a.eval ⟨dst,.store T x y,ty,pos,aft,g⟩).run P w=.ok .skip (w.setRow b (nH cs off vs).toArray):=by
  simp only [execOp,J.ev q,J.ev r]
  simp only [Nat.add_zero,List.toList_toArray] at hr
  simp [Instr.storeAt,Instr.sureAddr,storeVar,Sem.run_bind,m w,j,f,hr,q2k]
 rw [this]
 refine kk _ (N.upd l rfl rfl (fun c f h=>setRow_other w b c _ (fun e=>h (by simp [Res.foot,e]))) ?_ (.inl rfl))
 exact setRow_heap w b _ _ d _ hb
def built (P:Program) (t:TypeId) (parts:List (Nat×Value)) (len:Nat) (cs:List Value) (e:TypeId):Prop :=
 ∀w,(Instr.buildSlice t len parts.toArray).run P w=.ok (.slice (some ⟨w.heap.size,0,none⟩) len len) { w with heap:=w.heap.push (ob cs e) }
def evp (E:List (Nat×Value)):List (Nat×Operand)->Option (List (Nat×Value))
 | []=>some []
 | (i,x)::xs=>match ev E x,evp E xs with
  | some v,some vs=>some ((i,v)::vs)
  | _,_=>none
theorem EnvR.evp (h:EnvR n E D a):∀{xs:List (Nat×Operand)} {vs:List (Nat×Value)},Sw.evp E xs=some vs->xs.map (fun (i,x)=>(i,a.eval x))=vs
 | [],vs,b=>by simp [Sw.evp] at b;simp [b]
 | (i,x)::xs,vs,b=>by
  simp only [Sw.evp] at b
  split at b
  ·rename_i v vs' h1 h2
   simp only [Option.some.injEq] at b
   subst b
   simp [h.ev h1,EnvR.evp h h2]
  ·cases b
theorem EnvR.evpA (h:EnvR n E D a) {xs:Array (Nat×Operand)} {vs:List (Nat×Value)} (b:Sw.evp E xs.toList=some vs):xs.map (fun (i,x)=>(i,a.eval x))=vs.toArray:=by
 apply Array.ext'
 simp [h.evp b]
theorem z3e {t:TypeId} {ps:Array (Nat×Operand)} {vs:List (Nat×Value)} {cs:List Value} (J:EnvR n E D a) (b:evp E ps.toList=some vs) (hb:P.built t vs=some cs.toArray) :
  Ok P a (.build t ps) ty w (.agg cs.toArray):=fun _ _ _ _=>by
 simp only [execOp,J.evpA b]
 simp [Sem.run_bind,run_build w t vs.toArray cs.toArray (by simpa using hb),Result.andThen]
theorem mK {t e:TypeId} {len sz:Nat} {ps:Array (Nat×Operand)} {vs:List (Nat×Value)} {cs:List Value} (J:EnvR n E D a) (N:Mem V K w) (d:evp E ps.toList=some vs) (hb:built P t vs len cs e)
  (hl:cs.length=len * sz) (c:len<=maxLen) (k:∀v w',Mem V (.gs v e sz cs::K) w'->(∃p,v=.slice p len len)->Kn v w'):Oper.eff P ⟨dst,.buildSlice t len ps,ty,pos,aft,g⟩ a w Kn Qp:=by
 unfold Oper.eff
 have:(execOp a.eval ⟨dst,.buildSlice t len ps,ty,pos,aft,g⟩).run P w=.ok (.value (.slice (some ⟨w.heap.size,0,none⟩) len len)) { w with heap:=w.heap.push (ob cs e) }:=by
  simp only [execOp,J.evpA d]
  simp [Sem.run_bind,hb w]
 rw [this]
 refine k _ _ (N.more rfl rfl (fun b hb=>cY hb) ⟨len,hl,.inr ⟨w.heap.size,len,cs.toArray,rfl,Nat.zero_le _,by simp [ob],Nat.le_refl _,c,by simp [hl],by simp [<- hl]⟩⟩ (by simp [Res.foot,Value.ownBlock])) ⟨_,rfl⟩
theorem aD {f:FuncId} {xs:Array Operand} {ts:Array TypeId} {vs:List Value} {R:Ending->World->Prop} (J:EnvR n E D a) (h:evs E xs.toList=some vs)
  (d:∀args w,(callFunc f args).run P w=.ok (.enter f args) w) (b:Calls P f vs.toArray w R)
  (k:∀v w',R (.returned v) w'->Kn v w') (kp:∀c w',R (.panicked c) w'->Qp c w') (ko:∀w',R .outgrown w'->False) :
  Oper.eff P ⟨dst,.call { callee:=.value (.func f),args:=xs,argTypes:=ts },ty,pos,aft,g⟩ a w Kn Qp:=by
 unfold Oper.eff
 have:(execOp a.eval ⟨dst,.call { callee:=.value (.func f),args:=xs,argTypes:=ts },ty,pos,aft,g⟩).run P w=.ok (.enter f vs.toArray) w:=by
  simp [execOp,resolve,J.evsA h,Act.eval,Deferred.ofValue,invoke,d]
 rw [this]
 exact b.mono fun e w' hr=>by cases e <;> first | exact k _ _ hr | exact kp _ _ hr | exact ko _ hr
theorem z8c {f:FuncId} {y:Operand} {fs cs:List Value} {xs:Array Operand} {ts:Array TypeId} {vs:List Value} {R:Ending->World->Prop} (J:EnvR n E D a) (i:ev E y=some (.func (.func f) fs.toArray cs.toArray)) (h:evs E xs.toList=some vs)
  (d:∀args w,(callFunc f args).run P w=.ok (.enter f args) w) (b:Calls P f (fs++vs++cs).toArray w R)
  (k:∀v w',R (.returned v) w'->Kn v w') (kp:∀c w',R (.panicked c) w'->Qp c w') (ko:∀w',R .outgrown w'->False) :
  Oper.eff P ⟨dst,.call { callee:=.value y,args:=xs,argTypes:=ts },ty,pos,aft,g⟩ a w Kn Qp:=by
 unfold Oper.eff
 have:(execOp a.eval ⟨dst,.call { callee:=.value y,args:=xs,argTypes:=ts },ty,pos,aft,g⟩).run P w=.ok (.enter f (fs++vs++cs).toArray) w:=by
  simp only [execOp,resolve,J.evsA h,J.ev i]
  simp [Deferred.ofValue,invoke,d]
 rw [this]
 exact b.mono fun e w' hr=>by cases e <;> first | exact k _ _ hr | exact kp _ _ hr | exact ko _ hr
theorem vK {x:Operand} {t:TypeId} {v:Value} (J:EnvR n E D a) (c:ev E x=some (.iface t v)) (b:(Instr.panic (.iface t v)).run P w=.halt (.panic (.iface t v)) w)
  (kp:Qp [{ v:=.iface t v,recovered:=false }] w):Oper.eff P ⟨dst,.panic x,ty,pos,aft,g⟩ a w Kn Qp:=by
 unfold Oper.eff
 have:(execOp a.eval ⟨dst,.panic x,ty,pos,aft,g⟩).run P w=.halt (.panic (.iface t v)) w:=by
  simp [execOp,J.ev c,b]
 rw [this]
 exact kp
section
variable {ops:Array Oper} {rest:List Oper} {Q:Exit->Act->World->Prop}
theorem st {o:Oper} (J:EnvR n E D a) (g:o.dst=some d) (b:Nat.blt d n=true) (i:o.guard=none)
  (h:Oper.eff P o a w (fun v w'=>∀a,EnvR n ((d,v)::E) D a->wpList P ops Q rest a w') (fun c w'=>∀a,a.defers=D->Q (.panic c) a w')):wpList P ops Q (o::rest) a w:=by
 refine wpList_plain i fun L e=>cS (qB h (fun v w' j=>e _ _ ?_) (fun c w' f=>f _ J.defs))
 rw [g];exact j _ (J.put b)
theorem st0 {o:Oper} (J:EnvR n E D a) (e:o.dst=none) (f:o.guard=none)
  (h:Oper.eff P o a w (fun _ w'=>∀a,EnvR n E D a->wpList P ops Q rest a w') (fun c w'=>∀a,a.defers=D->Q (.panic c) a w')):wpList P ops Q (o::rest) a w:=by
 refine wpList_plain f fun L b=>cS (qB h (fun v w' g=>b _ _ ?_) (fun c w' d=>d _ J.defs))
 rw [e];exact g _ J.put_none
theorem jS (J:EnvR n E D a) (c:Ok P a op ty w v) (b:Nat.blt d n=true) (k:∀a,EnvR n ((d,v)::E) D a->wpList P ops Q rest a w) :
  wpList P ops Q (⟨some d,op,ty,pos,aft,none⟩::rest) a w :=
 st J rfl b rfl (pY c k)
theorem j5g (J:EnvR n E D a) {j t:Nat} {b:Bool} (c:ops[j]?.bind (·.dst)=some t) (d:get E t=some (.bool b)):yielded ops a.tmps j=some b:=by
 simp [yielded,c,J.env t _ d]
theorem oU (J:EnvR n E D a) {o:Oper} {j t:Nat} {b:Bool} (c:o.guard=some (j,b)) (d:ops[j]?.bind (·.dst)=some t) (e:get E t=some (.bool b)):Region.wanted o (yielded ops a.tmps)=true:=by
 simp [Region.wanted,c,j5g J d e]
def notB:Value->Bool->Bool
 | .bool c,b=>c != b
 | _,_=>true
theorem z9e (J:EnvR n E D a) {o:Oper} {j t:Nat} {b:Bool} {v:Value} (e:o.guard=some (j,b)) (f:ops[j]?.bind (·.dst)=some t) (g:get E t=some v) (hb:notB v b=true):Region.wanted o (yielded ops a.tmps)=false:=by
 have h:yielded ops a.tmps j≠some b:=by
  simp only [yielded,f,Option.bind_some,J.env t _ g]
  cases v <;> simp_all [notB]
 cases d:yielded ops a.tmps j with
 | none=>simp [Region.wanted,e,d]
 | some c=>rw [d] at h;simp only [ne_eq,Option.some.injEq] at h;simp [Region.wanted,e,d,h]
theorem g_no {o:Oper} {j t:Nat} {b:Bool} (J:EnvR n E D a) (e:o.dst=some d) (f:o.guard=some (j,b)) (c:Nat.blt d n=true) (g:ops[j]?.bind (·.dst)=some t) (h:get E t=some v) (hb:notB v b=true)
  (k:∀a,EnvR n ((d,undef)::E) D a->wpList P ops Q rest a w):wpList P ops Q (o::rest) a w:=by
 unfold wpList
 rw [if_neg (by rw [z9e J f g h hb];simp),e]
 exact k _ (J.put c)
theorem j6q {o:Oper} {j t:Nat} {b:Bool} (J:EnvR n E D a) (k:o.dst=some d) (l:o.guard=some (j,b)) (e:Nat.blt d n=true) (m:ops[j]?.bind (·.dst)=some t) (f:get E t=some (.bool b))
  (h:Oper.eff P o a w (fun v w'=>∀a,EnvR n ((d,v)::E) D a->wpList P ops Q rest a w') (fun c w'=>∀a,a.defers=D->Q (.panic c) a w')):wpList P ops Q (o::rest) a w:=by
 refine wpList_step fun L g=>?_
 rw [if_pos (oU J l m f)]
 refine cS (qB h (fun v w' f=>g _ _ ?_) (fun c w' i=>i _ J.defs))
 rw [k];exact f _ (J.put e)
theorem g_yes0 {o:Oper} {j t:Nat} {b:Bool} (J:EnvR n E D a) (g:o.dst=none) (i:o.guard=some (j,b)) (k:ops[j]?.bind (·.dst)=some t) (d:get E t=some (.bool b))
  (h:Oper.eff P o a w (fun _ w'=>∀a,EnvR n E D a->wpList P ops Q rest a w') (fun c w'=>∀a,a.defers=D->Q (.panic c) a w')):wpList P ops Q (o::rest) a w:=by
 refine wpList_step fun L e=>?_
 rw [if_pos (oU J i k d)]
 refine cS (qB h (fun v w' d=>e _ _ ?_) (fun c w' f=>f _ J.defs))
 rw [g];exact d _ J.put_none
end
end Go.Sw

namespace Go.Sw
variable {P:Program} {n:Nat} {E:List (Nat×Value)} {D:List Deferred} {a:Act} {V Ψ:Fz} {K:List Res} {w:World}
def gO:Nat->List Value->List (Nat×Value)
 | _,[]=>[]
 | i,v::vs=>(i,v)::gO (i+1) vs
theorem dA:∀(vs:List Value) (i t:Nat) (v:Value),get (gO i vs) t=some v->i<=t/\vs[t - i]? = some v
 | [],_,_,_,h=>by simp [gO,get] at h
 | x::vs,i,t,v,h=>by
  simp only [gO] at h
  rcases wK h with ⟨rfl,rfl⟩ | ⟨a,h⟩
  ·simp
  ·obtain ⟨h1,h2⟩:=dA vs (i+1) t v h
   refine ⟨by omega,?_⟩
   have:t - i=(t - (i+1))+1:=by omega
   rw [this];simpa using h2
theorem enter {f:FuncId} {fn:Func} {c:Code} {vs:List Value} {R:Ending->World->Prop} (d:P.funcs[f]? = some fn) (hb:fn.body=some c) (g:fn.ntmps=n) (hl:Nat.ble vs.length n=true)
  (k:∀Q:Exit->Act->World->Prop,(∀e a w,bodyPost P fn R e a w->Q e a w)->∀a,EnvR n (gO 0 vs) [] a->c.wp P Q a w):Calls P f vs.toArray w R:=by
 have hl':vs.length<=n:=by simpa using hl
 refine calls_of_wp d hb (k _ (fun _ _ _ h=>h) _ ⟨by simp [g];omega,fun t v i=>?_,rfl⟩)
 obtain ⟨_,h2⟩:=dA vs 0 t v i
 simp only [Nat.sub_zero] at h2
 have b:t < vs.length:=(List.getElem?_eq_some_iff.1 h2).1
 simp only [List.getElem?_toArray,Array.getElem?_append,List.size_toArray,b,↓reduceIte]
 exact h2
theorem ret0 {fn:Func} {R:Ending->World->Prop} (J:EnvR n E [] a) (hr:fn.results=#[]) (h:R (.returned (.tuple #[])) w):bodyPost P fn R .ret a w :=
 ⟨J.defs,.tuple #[],by simp [results,hr],h⟩
theorem ret1 {fn:Func} {R:Ending->World->Prop} {t:Nat} {v:Value} (J:EnvR n E [] a) (hr:fn.results=#[.tmp t]) (b:get E t=some v) (h:R (.returned v) w):bodyPost P fn R .ret a w :=
 ⟨J.defs,v,by simp [results,hr,Array.getD_eq_getD_getElem?,J.env t v b],h⟩
theorem ret2 {fn:Func} {R:Ending->World->Prop} {t u:Nat} {v x:Value} (J:EnvR n E [] a) (hr:fn.results=#[.tmp t,.tmp u]) (b:get E t=some v) (c:get E u=some x)
  (h:R (.returned (.tuple #[v,x])) w):bodyPost P fn R .ret a w :=
 ⟨J.defs,.tuple #[v,x],by simp [results,hr,Array.getD_eq_getD_getElem?,J.env t v b,J.env u x c],h⟩
variable {Q:Exit->Act->World->Prop}
theorem sq {x y:Code} (h:∀L:Act->World->Prop,(∀a w,y.wp P Q a w->L a w)->x.wp P (Exit.then L Q) a w):(Code.seq x y).wp P Q a w:=wp_seq_k h
theorem if_t {c:Operand} {x y:Code} (J:EnvR n E D a) (b:ev E c=some (.bool true)) (h:x.wp P Q a w):(Code.cond c x y).wp P Q a w:=wp_cond_true (J.ev b) h
theorem if_f {c:Operand} {x y:Code} (J:EnvR n E D a) (b:ev E c=some (.bool false)) (h:y.wp P Q a w):(Code.cond c x y).wp P Q a w:=wp_cond_false (J.ev b) h
theorem loop {c:Code} {σ:Type} (μ:σ->Nat) (I:σ->Act->World->Prop) (s0:σ) (d:I s0 a w)
  (hb:∀s a w,I s a w->∀L:Act->World->Prop,(∀s' a w,μ s' < μ s->I s' a w->L a w)->c.wp P (Exit.then L Q) a w):(Code.loop c).wp P Q a w:=by
 refine wp_loop_ghost (fun m a w=>∃s,μ s=m/\I s a w) (μ s0) ⟨s0,rfl,d⟩ ?_
 rintro m a w ⟨s,rfl,O⟩
 exact hb s a w O _ (fun s' a w b e=>⟨μ s',b,s',rfl,e⟩)
def Row (V:Fz) (v:Value) (k:Nat) (cs:List Value):Prop :=
 (v=.slice none 0 0/\cs=[])∨∃q m c,v=.slice (some q) m c/\cs.length=m * k/\m<=maxLen/\(cs≠[]->At V q cs)
theorem Row.mono {v:Value} {k:Nat} {cs:List Value} (h:Row V v k cs) (hl:V.Le Ψ):Row Ψ v k cs:=by
 rcases h with h | ⟨q,m,c,h1,h2,a,b⟩
 ·exact .inl h
 ·exact .inr ⟨q,m,c,h1,h2,a,fun h=>(b h).mono hl⟩
theorem Row.nil (k:Nat):Row V (.slice none 0 0) k []:=.inl ⟨rfl,rfl⟩
def Chunks {α:Type} (R:List Value->α->Prop) (k:Nat):List Value->List α->Prop
 | cs,[]=>cs=[]
 | cs,x::xs=>∃c rest,cs=c++rest/\c.length=k/\R c x/\Chunks R k rest xs
section
variable {α:Type} {R:List Value->α->Prop} {k:Nat}
theorem Chunks.length:∀{xs:List α} {cs:List Value},Chunks R k cs xs->cs.length=xs.length * k
 | [],cs,h=>by simp [Chunks] at h;simp [h]
 | x::xs,cs,⟨c,rest,h1,h2,_,a⟩=>by
  subst h1
  rw [List.length_append,Chunks.length a,h2,List.length_cons,Nat.succ_mul];omega
theorem Chunks.mono {R':List Value->α->Prop} (a:∀c x,R c x->R' c x):∀{xs:List α} {cs:List Value},Chunks R k cs xs->Chunks R' k cs xs
 | [],_,h=>h
 | _::_,_,⟨c,rest,h1,h2,b,d⟩=>⟨c,rest,h1,h2,a _ _ b,d.mono a⟩
theorem Chunks.snoc {c:List Value} {x:α} (a:c.length=k) (b:R c x):∀{xs:List α} {cs:List Value},Chunks R k cs xs->Chunks R k (cs++c) (xs++[x])
 | [],cs,h=>by
  simp only [Chunks] at h;subst h
  exact ⟨c,[],by simp,a,b,rfl⟩
 | y::ys,cs,⟨d,rest,h1,h2,e,f⟩=>⟨d,rest++c,by rw [h1,List.append_assoc],h2,e,f.snoc a b⟩
theorem Chunks.get:∀{xs:List α} {cs:List Value} {i:Nat} {x:α},Chunks R k cs xs->xs[i]? = some x->∃c,c.length=k/\R c x/\∀j v,c[j]? = some v->cs[i * k+j]? = some v
 | [],_,_,_,_,a=>by simp at a
 | y::ys,cs,0,x,⟨c,rest,h1,h2,g,h⟩,a=>by
  simp only [List.getElem?_cons_zero,Option.some.injEq] at a
  subst a
  refine ⟨c,h2,g,fun j v b=>?_⟩
  have f:j < c.length:=(List.getElem?_eq_some_iff.1 b).1
  rw [h1,Nat.zero_mul,Nat.zero_add,List.getElem?_append_left f];exact b
 | y::ys,cs,i+1,x,⟨c,rest,h1,h2,g,h⟩,a=>by
  simp only [List.getElem?_cons_succ] at a
  obtain ⟨d,l,e2,m⟩:=Chunks.get h a
  refine ⟨d,l,e2,fun j v b=>?_⟩
  have:=m j v b
  rw [h1,List.getElem?_append_right (by rw [h2,Nat.succ_mul];omega)]
  have e:(i+1) * k+j - c.length=i * k+j:=by rw [h2,Nat.succ_mul];omega
  rw [e];exact this
theorem Chunks.nil_iff {cs:List Value} {xs:List α} (h:Chunks R k cs xs) (a:0 < k):cs=[]↔xs=[]:=by
 cases xs with
 | nil=>simpa [Chunks] using h
 | cons x xs=>
  have:=h.length
  constructor
  ·rintro rfl;rw [List.length_cons,Nat.succ_mul] at this;simp at this;omega
  ·intro e;cases e
end
def SliceOf {α:Type} (R:Fz->List Value->α->Prop) (V:Fz) (k:Nat) (v:Value) (xs:List α):Prop:=∃cs,Row V v k cs/\Chunks (R V) k cs xs
section
variable {α:Type} {R:Fz->List Value->α->Prop} {k:Nat} {v:Value} {xs:List α}
theorem SliceOf.mono (a:∀V Ψ c x,V.Le Ψ->R V c x->R Ψ c x) (h:SliceOf R V k v xs) (hl:V.Le Ψ):SliceOf R Ψ k v xs :=
 let ⟨cs,h1,h2⟩:=h;⟨cs,h1.mono hl,h2.mono fun c x b=>a _ _ _ _ hl b⟩
theorem SliceOf.nil (k:Nat):SliceOf R V k (.slice none 0 0) []:=⟨[],Row.nil k,rfl⟩
theorem SliceOf.form (h:SliceOf R V k v xs) (a:0 < k):∃p c,v=.slice p xs.length c/\xs.length<=9223372036854775807/\(xs≠[]->∃q,p=some q):=by
 obtain ⟨cs,h1,h2⟩:=h
 rcases h1 with ⟨rfl,rfl⟩ | ⟨q,m,c,rfl,hl,N,b⟩
 ·have:=(h2.nil_iff a).1 rfl
  subst this
  exact ⟨none,0,rfl,by simp,fun h=>absurd rfl h⟩
 ·have:=h2.length
  have:m=xs.length:=Nat.eq_of_mul_eq_mul_right a (by rw [<- hl,this])
  subst this
  exact ⟨some q,c,rfl,by simpa [maxLen] using N,fun _=>⟨q,rfl⟩⟩
theorem At.sub {p:Addr} {cs ds:List Value} {o:Nat} (h:At V p cs) (a:∀j v,ds[j]? = some v->cs[o+j]? = some v):At V (p.add o) ds:=by
 obtain ⟨arr,T,fr,h1,h2⟩:=h.ex
 have O:=h.spot
 cases p with
 | mk b f s=>
  simp only at O;subst O
  have e:(⟨b,f,none⟩:Addr).add o=⟨b,f+o,none⟩:=by
   unfold Addr.add;split
   ·subst_vars;rfl
   ·rfl
  rw [e]
  exact ⟨rfl,arr,T,fr,h1,fun j v c=>by simpa [Nat.add_assoc] using h2 (o+j) v (a j v c)⟩
theorem SliceOf.elem {q:Addr} {m c i:Nat} {x:α} (h:SliceOf R V k (.slice (some q) m c) xs) (f:xs[i]? = some x) (l:0 < k:=by decide):∃cs,cs.length=k/\At V (q.add (i * k)) cs/\R V cs x:=by
 obtain ⟨cs,h1,h2⟩:=h
 rcases h1 with ⟨h,_⟩ | ⟨q',m',c',J,hl,N,a⟩
 ·cases h
 ·simp only [Value.slice.injEq,Option.some.injEq] at J
  obtain ⟨rfl,rfl,rfl⟩:=J
  obtain ⟨d,g,e2,j⟩:=h2.get f
  have b:cs≠[]:=fun e=>by rw [(h2.nil_iff l).1 e] at f;simp at f
  exact ⟨d,g,(a b).sub j,e2⟩
end
theorem Mem.freezeRow {v:Value} {T:TypeId} {k i:Nat} {cs:List Value} (N:Mem V K w) (e:qH K i=some (.gs v T k cs)):∃Ψ,V.Le Ψ/\Mem Ψ (dJ K i) w/\Row Ψ v k cs:=by
 have h:=N.pull e
 obtain ⟨m,hl,h2⟩:=N.own _ (yQ e)
 rcases h2 with ⟨rfl,rfl⟩ | ⟨b,cap,cur,rfl,_,l,f,d,g,a⟩
 ·exact ⟨V,Fz.Le.refl V,h.tail,.inl ⟨rfl,List.eq_nil_of_length_eq_zero (by simpa using hl)⟩⟩
 ·refine ⟨_,Fz.le_add (h.no rfl) _,h.freezeHead (b:=b) rfl l,.inr ⟨_,m,cap,rfl,hl,Nat.le_trans f d,fun _=>⟨rfl,cur,T,(0,0),by simp [Fz.add],fun j v c=>?_⟩⟩⟩
  rw [<- a,List.getElem?_take] at c
  split at c
  ·simpa using c
  ·cases c
theorem Mem.freezeBlk {b i:Nat} {cs:List Value} {T:TypeId} (N:Mem V K w) (a:qH K i=some (.blk b (ob cs T))):∃Ψ,V.Le Ψ/\Mem Ψ (dJ K i) w/\At Ψ ⟨b,0,none⟩ cs:=by
 have h:=N.pull a
 have d:w.heap[b]? = some (ob cs T):=N.own _ (yQ a)
 exact ⟨_,Fz.le_add (h.no rfl) _,h.freezeHead (b:=b) rfl d,rfl,cs.toArray,T,(0,0),by simp [Fz.add,ob],fun j v c=>by simpa using c⟩
theorem Sees.gsForm {v:Value} {T:TypeId} {k i:Nat} {cs:List Value} (N:Sees V K w) (e:qH K i=some (.gs v T k cs)):∃p m c,v=.slice p m c/\cs.length=m * k/\m<=maxLen:=by
 obtain ⟨m,hl,h2⟩:=N.own _ (yQ e)
 rcases h2 with ⟨rfl,rfl⟩ | ⟨b,cap,cur,rfl,_,_,d,a,_⟩
 ·exact ⟨none,0,0,rfl,hl,Nat.zero_le _⟩
 ·exact ⟨_,m,cap,rfl,hl,Nat.le_trans d a⟩
theorem Sees.gsCells {v:Value} {T:TypeId} {k i:Nat} {cs:List Value} (N:Sees V K w) (a:qH K i=some (.gs v T k cs)):v.cells.toList=[v]:=by
 obtain ⟨p,m,c,rfl,_⟩:=N.gsForm a;rfl
theorem Sees.gsOne {v:Value} {T:TypeId} {k i:Nat} {cs:List Value} (N:Sees V K w) (a:qH K i=some (.gs v T k cs)):[v].all Value.oneCell'=true:=by
 obtain ⟨p,m,c,rfl,_⟩:=N.gsForm a;rfl
variable {Kn:Value->World->Prop} {Qp:List PanicEntry->World->Prop} {dst:Option Tmp} {ty:TypeId} {pos:String} {aft:Array Edge} {g:Option (Nat×Bool)}
structure RowT (P:Program) (t e:TypeId) (size bytes:Nat):Prop where
 under:P.underlying t=some (.slice e)
 info:∃i z,P.info? e=some i/\i.zero=some z/\i.size=size/\i.bytes=bytes/\z.cells.size=size
 pos:0 < size
 bpos:0 < bytes
def y9p (w:World) (v:Value) (k:Nat) (cs:List Value):Prop :=
 (v=.slice none 0 0/\cs=[])∨∃q m c,v=.slice (some q) m c/\cs.length=m * k/\∀j u,cs[j]? = some u->w.cell? (q.add j)=some u
theorem Row.rowIn {v:Value} {k:Nat} {cs:List Value} (h:Row V v k cs) (N:Sees V K w):y9p w v k cs:=by
 rcases h with h | ⟨q,m,c,h1,h2,_,b⟩
 ·exact .inl h
 ·exact .inr ⟨q,m,c,h1,h2,fun j u a=>N.at (b fun e=>by rw [e] at a;simp at a) j u a⟩
theorem Sees.rowIn {v:Value} {T:TypeId} {k i:Nat} {cs:List Value} (N:Sees V K w) (c:qH K i=some (.gs v T k cs)):y9p w v k cs:=by
 obtain ⟨m,a⟩:=N.own _ (yQ c)
 rcases a.2 with ⟨rfl,rfl⟩ | ⟨b,cap,cur,rfl,_⟩
 ·exact .inl ⟨rfl,List.eq_nil_of_length_eq_zero (by simpa using a.1)⟩
 ·exact .inr ⟨_,m,cap,rfl,a.1,a.cells (g:=b) rfl⟩
theorem kK (i:Nat) {s x:Operand} {t e:TypeId} {size bytes:Nat} {v vx:Value} {xs news:List Value} (A:RowT P t e size bytes) (J:EnvR n E D a) (N:Mem V K w)
  (O:ev E s=some v) (S:qH K i=some (.gs v e size xs)) (hx:ev E x=some vx) (hr:y9p w vx size news) (h1:news.all Value.oneCell'=true)
  (hb:∀n m,xs.length=n * size->news.length=m * size->(n+m) * bytes<=140737488355328)
  (k:∀v' w',Mem V (wI K i (.gs v' e size (xs++news))) w'->Kn v' w') :
  Oper.eff P ⟨dst,.call { callee:=.builtin .append,args:=#[s,x],argTypes:=#[t,t] },ty,pos,aft,g⟩ a w Kn Qp:=by
 obtain ⟨inf,z,L,U,l,G,R⟩:=A.info
 obtain ⟨nn,f⟩:=N.own _ (yQ S)
 have W:=A.pos
 have Q:xs.length=nn * size:=f.1
 have o:∀v' w',(Builtin.append_ #[t,t] ty #[v,vx]).run P w=.ok v' w'->Kn v' w' ->
   Oper.eff P ⟨dst,.call { callee:=.builtin .append,args:=#[s,x],argTypes:=#[t,t] },ty,pos,aft,g⟩ a w Kn Qp:=by
  intro v' w' d Y
  unfold Oper.eff
  have:(execOp a.eval ⟨dst,.call { callee:=.builtin .append,args:=#[s,x],argTypes:=#[t,t] },ty,pos,aft,g⟩).run P w=.ok (.value v') w':=by
   simp only [execOp,resolve,invoke,builtin,Sem.run_bind,Sem.run_pure,Result.andThen_ok,List.map_toArray,List.map_cons,List.map_nil,J.ev O,J.ev hx,d]
  rw [this]
  exact Y
 rcases hr with ⟨rfl,rfl⟩ | ⟨q,m',c,rfl,hl,B⟩
 ·
  have r:∃p nn cap,v=.slice p nn cap/\nn<=cap:=by
   rcases f.2 with ⟨rfl,rfl⟩ | ⟨b,cap,cur,rfl,_,_,H,_⟩
   ·exact ⟨none,0,0,rfl,Nat.le_refl _⟩
   ·exact ⟨_,nn,cap,rfl,H⟩
  obtain ⟨p,nn',cap,rfl,H⟩:=r
  refine o (.slice p nn' cap) w ?_ (k _ _ ?_)
  ·cases p with
   | none=>simp [Builtin.append_,run_underlying A.under,sizeOf,typeInfo,L,Builtin.lenOf,Builtin.firstCells,H]
   | some q=>simp [Builtin.append_,run_underlying A.under,sizeOf,typeInfo,L,Builtin.lenOf,Builtin.firstCells,H,storeCells]
  ·rw [List.append_nil]
   exact N.upd S rfl rfl (fun _ _ _=>rfl) ⟨nn,f⟩ (.inl rfl)
 ·have C:(nn+m') * bytes<=140737488355328:=hb nn m' Q hl
  have F:nn+m'<=Go.maxLen:=by
   have:=Nat.le_trans (Nat.le_mul_of_pos_right (nn+m') A.bpos) C
   simp only [Go.maxLen];omega
  have hsmall:nn+m'<=9223372036854775807:=by simp only [Go.maxLen] at F;omega
  rcases f.2 with ⟨rfl,rfl⟩ | ⟨b,cap,cur,rfl,_,hg,H,Z,T,_⟩
  ·obtain ⟨v',w',d,ho',h,_⟩:=run_append_own (P:=P) w w.heap.size t ty e inf z size bytes A.under L U l G R W (.slice none 0 0) 0 xs ⟨f.1,.inl ⟨rfl,rfl⟩⟩ q m' c news hl B (fun u M=>List.all_eq_true.1 h1 u M) F C (Nat.le_refl _)
   refine o v' w' d (k _ _ (N.upd S h.os h.output (fun b hb I=>h.block b hb I) ⟨0+m',?_⟩ (.inr fun b hb=>(ho'.lt b hb).1)))
   exact ⟨ho'.1,ho'.2.imp id fun ⟨g,cap,cur,h1,_,X⟩=>⟨g,cap,cur,h1,Nat.zero_le _,X⟩⟩
  ·obtain ⟨v',w',d,ho',h,_⟩:=run_append_own (P:=P) w 0 t ty e inf z size bytes A.under L U l G R W _ nn xs f q m' c news hl B (fun u M=>List.all_eq_true.1 h1 u M) F C (Nat.zero_le _)
   refine o v' w' d (k _ _ (N.upd S h.os h.output (fun b hb I=>h.block b hb I) ⟨nn+m',ho'⟩ ?_))
   by_cases y:nn+m'<=cap
   ·have r:nn * inf.size+news.length<=cur.size:=by rw [hl,T,l,<- Nat.add_mul];exact Nat.mul_le_mul_right _ y
    have hr:=run_append_room (P:=P) w t ty e inf A.under L b nn cap cur hg q m' c news (by rw [l];exact hl) B (fun u M=>List.all_eq_true.1 h1 u M) y r
    rw [hr] at d
    cases d
    exact .inl rfl
   ·have holds:∀j u,xs[j]? = some u->w.cell? ((⟨b,0,none⟩:Addr).add j)=some u:=f.cells (g:=b) rfl
    have hr:=run_append_grow (P:=P) w t ty e inf z A.under L U ⟨b,0,none⟩ nn cap xs (by rw [l];exact Q) holds q m' c news (by rw [l];exact hl) B (by omega) (by omega) (by rw [G];exact growslice_fits (by omega) C)
    rw [hr] at d
    cases d
    exact .inr fun c H=>by simp [Res.foot,Value.ownBlock] at H;omega
theorem z4c (i:Nat) {s x:Operand} {t e:TypeId} {size bytes:Nat} {v vx:Value} {xs news:List Value} (b:RowT P t e size bytes) (J:EnvR n E D a) (N:Mem V K w)
  (O:ev E s=some v) (c:qH K i=some (.gs v e size xs)) (f:ev E x=some vx) (hr:y9p w vx size news) (h1:news.all Value.oneCell'=true)
  (hb:(xs.length+news.length) * bytes<=140737488355328)
  (k:∀v' w',Mem V (wI K i (.gs v' e size (xs++news))) w'->Kn v' w') :
  Oper.eff P ⟨dst,.call { callee:=.builtin .append,args:=#[s,x],argTypes:=#[t,t] },ty,pos,aft,g⟩ a w Kn Qp :=
 kK i b J N O c f hr h1 (fun n m d hl=>by
  refine Nat.le_trans (Nat.mul_le_mul_right _ ?_) hb
  rw [d,hl,<- Nat.add_mul]
  exact Nat.le_mul_of_pos_right _ b.pos) k
end Go.Sw

namespace Go.Sw
variable {P:Program} {n:Nat} {E:List (Nat×Value)} {D:List Deferred} {a:Act} {V Ψ:Fz} {K K':List Res} {w:World}
section
variable {ops:Array Oper} {B:World->Prop} {kd:List Nat} {Qp:List PanicEntry->World->Prop} {Q:Act->World->Prop} {d:Nat} {v:Value} {op:Op} {ty:TypeId} {pos:String} {aft:Array Edge} {g:Option (Nat×Bool)} {i:Nat} {p:Plan} {dst:Option Tmp}
theorem dL {id:Nat} {l:List Oper} {Q:Exit->Act->World->Prop} (kd:List Nat) (p:Plan) (K':List Res) (J:EnvR n E D a) (N:Mem V K w) (f:P.follows .mixedOrders=true) (b:z6m l.toArray kd p=true) (d:∀r∈K',r∈K)
  (h:∀w,Mem V K w->yF P .any l.toArray (Sees V K') kd (fun c w=>∀a,a.defers=D->Q (.panic c) a w) (Q .normal) p a w):(Code.region id l.toArray true).wp P Q a w:=by
 have hm':=N.drew
 exact y7v (D:=D) kd p (Sees V K') (fun c w=>∀a,a.defers=D->Q (.panic c) a w) f b (fun c a w e h=>h a e) J.defs ⟨hm'.fz,fun r hr=>hm'.own r (d r hr)⟩ (h _ hm')
theorem sO {o:Oper} (a:o.guard=none) (f:Nat->Option Bool):Region.wanted o f=true:=by simp [Region.wanted,a]
theorem d_q (J:EnvR n E D a) (e:ops[i]? = some ⟨some d,op,ty,pos,aft,none⟩) (b:qC kd i=2) (f:∀w,B w->Ok P a op ty w v) (c:Nat.blt d n=true)
  (k:∀a,EnvR n ((d,v)::E) D a->yF P .any ops B kd Qp Q p a w):yF P .any ops B kd Qp Q (.q i p) a w:=by
 unfold yF aC
 simp only [e]
 rw [if_pos (sO rfl _),if_neg (by rw [b];decide)]
 exact ⟨v,fun w g=>f w (g b) _ _ _ _,k _ (J.put c)⟩
theorem y3n (J:EnvR n E D a) (c:ops[i]? = some ⟨some d,op,ty,pos,aft,none⟩) (e:qC kd i=1) (f:∀w,Ok P a op ty w v) (b:Nat.blt d n=true)
  (k:∀a,EnvR n ((d,v)::E) D a->yF P .any ops B kd Qp Q p a w):yF P .any ops B kd Qp Q (.q i p) a w:=by
 unfold yF aC
 simp only [c]
 rw [if_pos (sO rfl _),if_neg (by rw [e];decide)]
 exact ⟨v,fun w _=>f w _ _ _ _,k _ (J.put b)⟩
theorem d_qg (J:EnvR n E D a) {j t:Nat} {b:Bool} (f:ops[i]? = some ⟨some d,op,ty,pos,aft,some (j,b)⟩) (g:ops[j]?.bind (·.dst)=some t) (l:get E t=some (.bool b)) (c:qC kd i=2)
  (h:∀w,B w->Ok P a op ty w v) (e:Nat.blt d n=true)
  (k:∀a,EnvR n ((d,v)::E) D a->yF P .any ops B kd Qp Q p a w):yF P .any ops B kd Qp Q (.q i p) a w:=by
 unfold yF aC
 simp only [f]
 rw [if_pos (oU J rfl g l),if_neg (by rw [c];decide)]
 exact ⟨v,fun w m=>h w (m c) _ _ _ _,k _ (J.put e)⟩
theorem d_qg1 (J:EnvR n E D a) {j t:Nat} {b:Bool} (e:ops[i]? = some ⟨some d,op,ty,pos,aft,some (j,b)⟩) (f:ops[j]?.bind (·.dst)=some t) (l:get E t=some (.bool b)) (g:qC kd i=1)
  (h:∀w,Ok P a op ty w v) (c:Nat.blt d n=true)
  (k:∀a,EnvR n ((d,v)::E) D a->yF P .any ops B kd Qp Q p a w):yF P .any ops B kd Qp Q (.q i p) a w:=by
 unfold yF aC
 simp only [e]
 rw [if_pos (oU J rfl f l),if_neg (by rw [g];decide)]
 exact ⟨v,fun w _=>h w _ _ _ _,k _ (J.put c)⟩
theorem q3n (h:Q a w):yF P .any ops B kd Qp Q .done a w:=h
theorem d_no (J:EnvR n E D a) {j t:Nat} {b:Bool} (e:ops[i]? = some ⟨some d,op,ty,pos,aft,some (j,b)⟩) (f:ops[j]?.bind (·.dst)=some t) {u:Value} (g:get E t=some u) (hb:notB u b=true)
  (c:Nat.blt d n=true) (k:∀a,EnvR n ((d,undef)::E) D a->yF P .any ops B kd Qp Q p a w):yF P .any ops B kd Qp Q (.q i p) a w:=by
 unfold yF aC
 simp only [e]
 rw [if_neg (by rw [z9e J rfl f g hb];simp)]
 exact k _ (J.put c)
theorem d_no_e (J:EnvR n E D a) {j t:Nat} {b:Bool} (f:ops[i]? = some ⟨some d,op,ty,pos,aft,some (j,b)⟩) (g:ops[j]?.bind (·.dst)=some t) {u:Value} (h:get E t=some u) (hb:notB u b=true)
  (c:Nat.blt d n=true) (k:∀a,EnvR n ((d,undef)::E) D a->yF P .any ops B kd Qp Q p a w):yF P .any ops B kd Qp Q (.e i p) a w:=by
 unfold yF aC
 simp only [f]
 rw [if_neg (by rw [z9e J rfl g h hb];simp)]
 exact k _ (J.put c)
theorem drOp_e (J:EnvR n E D a) {L:Act->World->Prop} (e:ops[i]? = some ⟨some d,op,ty,pos,aft,none⟩) (f:qC kd i=0) (c:Nat.blt d n=true)
  (h:Oper.eff P ⟨some d,op,ty,pos,aft,none⟩ a w (fun v w'=>(oN .any kd ⟨some d,op,ty,pos,aft,none⟩=true->B w')/\∀a,EnvR n ((d,v)::E) D a->L a w') Qp):aC P .any ops B kd Qp i L a w:=by
 unfold aC
 simp only [e]
 rw [if_pos (sO rfl _),if_pos f]
 exact qB h (fun v w' b=>⟨b.1,b.2 _ (J.put c)⟩) (fun _ _ h=>h)
theorem drOp_e0 (J:EnvR n E D a) {L:Act->World->Prop} (c:ops[i]? = some ⟨none,op,ty,pos,aft,none⟩) (d:qC kd i=0)
  (h:Oper.eff P ⟨none,op,ty,pos,aft,none⟩ a w (fun _ w'=>(oN .any kd ⟨none,op,ty,pos,aft,none⟩=true->B w')/\∀a,EnvR n E D a->L a w') Qp):aC P .any ops B kd Qp i L a w:=by
 unfold aC
 simp only [c]
 rw [if_pos (sO rfl _),if_pos d]
 exact qB h (fun v w' b=>⟨b.1,b.2 _ J.put_none⟩) (fun _ _ h=>h)
theorem drOp_eg (J:EnvR n E D a) {L:Act->World->Prop} {j t:Nat} {b:Bool} (f:ops[i]? = some ⟨some d,op,ty,pos,aft,some (j,b)⟩) (g:ops[j]?.bind (·.dst)=some t) (c:get E t=some (.bool b)) (k:qC kd i=0) (e:Nat.blt d n=true)
  (h:Oper.eff P ⟨some d,op,ty,pos,aft,some (j,b)⟩ a w (fun v w'=>(oN .any kd ⟨some d,op,ty,pos,aft,some (j,b)⟩=true->B w')/\∀a,EnvR n ((d,v)::E) D a->L a w') Qp):aC P .any ops B kd Qp i L a w:=by
 unfold aC
 simp only [f]
 rw [if_pos (oU J rfl g c),if_pos k]
 exact qB h (fun v w' c=>⟨c.1,c.2 _ (J.put e)⟩) (fun _ _ h=>h)
theorem d_e (J:EnvR n E D a) (c:ops[i]? = some ⟨some d,op,ty,pos,aft,none⟩) (f:qC kd i=0) (b:Nat.blt d n=true)
  (h:Oper.eff P ⟨some d,op,ty,pos,aft,none⟩ a w (fun v w'=>(oN .any kd ⟨some d,op,ty,pos,aft,none⟩=true->B w')/\∀a,EnvR n ((d,v)::E) D a->yF P .any ops B kd Qp Q p a w') Qp):yF P .any ops B kd Qp Q (.e i p) a w :=
 drOp_e J c f b h
theorem y8u (J:EnvR n E D a) (b:ops[i]? = some ⟨none,op,ty,pos,aft,none⟩) (c:qC kd i=0)
  (h:Oper.eff P ⟨none,op,ty,pos,aft,none⟩ a w (fun _ w'=>(oN .any kd ⟨none,op,ty,pos,aft,none⟩=true->B w')/\∀a,EnvR n E D a->yF P .any ops B kd Qp Q p a w') Qp):yF P .any ops B kd Qp Q (.e i p) a w :=
 drOp_e0 J b c h
theorem d_eg (J:EnvR n E D a) {j t:Nat} {b:Bool} (f:ops[i]? = some ⟨some d,op,ty,pos,aft,some (j,b)⟩) (g:ops[j]?.bind (·.dst)=some t) (l:get E t=some (.bool b)) (k:qC kd i=0) (c:Nat.blt d n=true)
  (h:Oper.eff P ⟨some d,op,ty,pos,aft,some (j,b)⟩ a w (fun v w'=>(oN .any kd ⟨some d,op,ty,pos,aft,some (j,b)⟩=true->B w')/\∀a,EnvR n ((d,v)::E) D a->yF P .any ops B kd Qp Q p a w') Qp):yF P .any ops B kd Qp Q (.e i p) a w :=
 drOp_eg J f g l k c h
theorem aT {i j:Nat} {p r:Plan} (h1:yF P .any ops B kd Qp Q (.e i p) a w) (h2:yF P .any ops B kd Qp Q (.e j r) a w):yF P .any ops B kd Qp Q (.e2 i j p r) a w:=⟨h1,h2⟩
theorem Mem.seesIn (N:Mem Ψ K w) (hl:V.Le Ψ) (a:∀r∈K',r∈K):Sees V K' w:=⟨fun b o hb=>N.fz b o (hl.obj b o hb),fun r hr=>N.own r (a r hr)⟩
end
section
variable {Kn:Value->World->Prop} {Qp:List PanicEntry->World->Prop} {dst:Option Tmp} {ty:TypeId} {pos:String} {aft:Array Edge} {g:Option (Nat×Bool)}
variable {f:FuncId} {xs:Array Operand} {ts:Array TypeId} {vs:List Value}
theorem q0o {X:Value} {Φ':Fz} {K':List Res} (J:EnvR n E D a) (i:evs E xs.toList=some vs) (d:∀args w,(callFunc f args).run P w=.ok (.enter f args) w)
  (b:Calls P f vs.toArray w (fun e w'=>e=.returned X/\Mem Φ' K' w')) (k:∀w',Mem Φ' K' w'->Kn X w') :
  Oper.eff P ⟨dst,.call { callee:=.value (.func f),args:=xs,argTypes:=ts },ty,pos,aft,g⟩ a w Kn Qp :=
 aD J i d b (fun v w' h=>by cases h.1;exact k _ h.2) (fun c w' h=>by cases h.1) (fun w' h=>by cases h.1)
theorem kG {Φ':Fz} {K':Value->List Res} (J:EnvR n E D a) (i:evs E xs.toList=some vs) (d:∀args w,(callFunc f args).run P w=.ok (.enter f args) w)
  (b:Calls P f vs.toArray w (fun e w'=>∃v,e=.returned v/\Mem Φ' (K' v) w')) (k:∀v w',Mem Φ' (K' v) w'->Kn v w') :
  Oper.eff P ⟨dst,.call { callee:=.value (.func f),args:=xs,argTypes:=ts },ty,pos,aft,g⟩ a w Kn Qp :=
 aD J i d b (fun v w' h=>by obtain ⟨u,h1,h2⟩:=h;cases h1;exact k _ _ h2) (fun c w' h=>by obtain ⟨u,h1,_⟩:=h;cases h1) (fun w' h=>by obtain ⟨u,h1,_⟩:=h;cases h1)
theorem j9b {b:Bool} {Φ':Fz} {K':List Res} (J:EnvR n E D a) (h:evs E xs.toList=some vs) (d:∀args w,(callFunc f args).run P w=.ok (.enter f args) w)
  (c:Calls P f vs.toArray w (fun e w'=>e=.returned (.bool b)/\Mem Φ' K' w')) (kt:b=true->∀w',Mem Φ' K' w'->Kn (.bool true) w') (kf:b=false->∀w',Mem Φ' K' w'->Kn (.bool false) w') :
  Oper.eff P ⟨dst,.call { callee:=.value (.func f),args:=xs,argTypes:=ts },ty,pos,aft,g⟩ a w Kn Qp:=by
 refine q0o J h d c fun w' N=>?_
 cases b with
 | true=>exact kt rfl _ N
 | false=>exact kf rfl _ N
end
section
variable {Kn:Value->World->Prop} {Qp:List PanicEntry->World->Prop} {dst:Option Tmp} {ty:TypeId} {pos:String} {aft:Array Edge} {g:Option (Nat×Bool)}
variable {f:FuncId} {xs:Array Operand} {ts:Array TypeId} {vs fs cs:List Value} {y:Operand}
theorem y3y {X:Value} {Φ':Fz} {K':List Res} (J:EnvR n E D a) (j:ev E y=some (.func (.func f) fs.toArray cs.toArray)) (i:evs E xs.toList=some vs) (d:∀args w,(callFunc f args).run P w=.ok (.enter f args) w)
  (b:Calls P f (fs++vs++cs).toArray w (fun e w'=>e=.returned X/\Mem Φ' K' w')) (k:∀w',Mem Φ' K' w'->Kn X w') :
  Oper.eff P ⟨dst,.call { callee:=.value y,args:=xs,argTypes:=ts },ty,pos,aft,g⟩ a w Kn Qp :=
 z8c J j i d b (fun v w' h=>by cases h.1;exact k _ h.2) (fun c w' h=>by cases h.1) (fun w' h=>by cases h.1)
theorem j1t {b:Bool} {Φ':Fz} {K':List Res} (J:EnvR n E D a) (i:ev E y=some (.func (.func f) fs.toArray cs.toArray)) (h:evs E xs.toList=some vs) (d:∀args w,(callFunc f args).run P w=.ok (.enter f args) w)
  (c:Calls P f (fs++vs++cs).toArray w (fun e w'=>e=.returned (.bool b)/\Mem Φ' K' w')) (kt:b=true->∀w',Mem Φ' K' w'->Kn (.bool true) w') (kf:b=false->∀w',Mem Φ' K' w'->Kn (.bool false) w') :
  Oper.eff P ⟨dst,.call { callee:=.value y,args:=xs,argTypes:=ts },ty,pos,aft,g⟩ a w Kn Qp:=by
 refine y3y J i h d c fun w' N=>?_
 cases b with
 | true=>exact kt rfl _ N
 | false=>exact kf rfl _ N
end
theorem mN {Q:Exit->Act->World->Prop} {c:Code} (I:Nat->Act->World->Prop) (d:Nat) (e:I d a w)
  (hb:∀m a w,I m a w->∀L:Act->World->Prop,(∀m' a w,m' < m->I m' a w->L a w)->c.wp P (Exit.then L Q) a w):(Code.loop c).wp P Q a w:=by
 refine wp_loop_ghost I d e fun m a w f=>hb m a w f _ fun m' a w b h=>⟨m',b,h⟩
end Go.Sw

namespace Go.Sw
abbrev Bs:=ByteArray
def I64 (i:Int):Prop:=-9223372036854775808<=i/\i<=9223372036854775807
theorem I64.of_wrap (i:Int):I64 (IntKind.i64.wrap i):=by
 simp only [I64,IntKind.wrap,IntKind.signed,IntKind.bits]
 simp
 omega
inductive Val where
 | mk (con:Bs) (num:Int) (args:List Val)
namespace Val
def con:Val->Bs | .mk c _ _=>c
def num:Val->Int | .mk _ n _=>n
def args:Val->List Val | .mk _ _ a=>a
end Val
mutual
inductive Ex where
 | mk (kind num:Int) (name:Bs) (args:List Ex) (arms:List Arm)
inductive Arm where
 | mk (con:Bs) (vars:List Bs) (body:Ex)
end
namespace Ex
def kind:Ex->Int | .mk k _ _ _ _=>k
def num:Ex->Int | .mk _ n _ _ _=>n
def name:Ex->Bs | .mk _ _ s _ _=>s
def args:Ex->List Ex | .mk _ _ _ a _=>a
def arms:Ex->List Arm | .mk _ _ _ _ a=>a
end Ex
namespace Arm
def con:Arm->Bs | .mk c _ _=>c
def vars:Arm->List Bs | .mk _ v _=>v
def body:Arm->Ex | .mk _ _ b=>b
end Arm
structure Param where
 name:Bs
 type:Bs
structure Con where
 name:Bs
 fields:List Bs
structure Data where
 name:Bs
 cons:List Con
structure Fun where
 name:Bs
 params:List Param
 result:Bs
 body:Ex
structure Core where
 datas:List Data
 inputs:List Param
 funs:List Fun
 outputs:List Bs
structure Named where
 name:Bs
 value:Val
def RStr (_:Fz) (cs:List Value) (s:Bs):Prop:=cs=[.string s]
theorem RStr.mono (V Ψ:Fz) (c:List Value) (x:Bs) (_:V.Le Ψ) (h:RStr V c x):RStr Ψ c x:=h
mutual
def RVal' (V:Fz):Val->List Value->Prop
 | .mk con num args,cs=>∃s d,cs=[.string con,.int .i64 num,s]/\I64 num/\Row V s 3 d/\RVals' V args d
def RVals' (V:Fz):List Val->List Value->Prop
 | [],cs=>cs=[]
 | x::xs,cs=>∃c rest,cs=c++rest/\c.length=3/\RVal' V x c/\RVals' V xs rest
end
def RVal (V:Fz) (cs:List Value) (x:Val):Prop:=RVal' V x cs
theorem RVals'.iff {V:Fz}:∀{xs:List Val} {cs:List Value},RVals' V xs cs↔Chunks (RVal V) 3 cs xs
 | [],cs=>by simp only [RVals',Chunks]
 | x::xs,cs=>by simp only [RVals',Chunks,RVals'.iff (xs:=xs),RVal]
theorem RVal.iff {V:Fz} {cs:List Value} {x:Val}:RVal V cs x↔∃s,cs=[.string x.con,.int .i64 x.num,s]/\I64 x.num/\SliceOf RVal V 3 s x.args:=by
 cases x with
 | mk con num args=>
  simp only [RVal,RVal',RVals'.iff,Val.con,Val.num,Val.args,SliceOf]
  constructor
  ·rintro ⟨s,d,h1,h2,a,b⟩;exact ⟨s,h1,h2,d,a,b⟩
  ·rintro ⟨s,h1,h2,d,a,b⟩;exact ⟨s,d,h1,h2,a,b⟩
mutual
theorem RVal'.mono {V Ψ:Fz} (hl:V.Le Ψ):∀{x:Val} {cs:List Value},RVal' V x cs->RVal' Ψ x cs
 | .mk _ _ _,_,⟨s,d,h1,h2,a,b⟩=>⟨s,d,h1,h2,a.mono hl,RVals'.mono hl b⟩
theorem RVals'.mono {V Ψ:Fz} (hl:V.Le Ψ):∀{xs:List Val} {cs:List Value},RVals' V xs cs->RVals' Ψ xs cs
 | [],_,h=>h
 | _::_,_,⟨c,rest,h1,h2,a,b⟩=>⟨c,rest,h1,h2,RVal'.mono hl a,RVals'.mono hl b⟩
end
theorem RVal.mono (V Ψ:Fz) (c:List Value) (x:Val) (hl:V.Le Ψ) (h:RVal V c x):RVal Ψ c x:=RVal'.mono hl h
theorem RVal.up {V Ψ:Fz} {c:List Value} {x:Val} (h:RVal V c x) (l:V.Le Ψ):RVal Ψ c x:=RVal.mono _ _ _ _ l h
mutual
def REx' (V:Fz):Ex->List Value->Prop
 | .mk kind num name args arms,cs=>∃s t d f,cs=[.int .i64 kind,.int .i64 num,.string name,s,t]/\I64 num/\Row V s 5 d/\REs' V args d/\Row V t 7 f/\RArms' V arms f
def REs' (V:Fz):List Ex->List Value->Prop
 | [],cs=>cs=[]
 | x::xs,cs=>∃c rest,cs=c++rest/\c.length=5/\REx' V x c/\REs' V xs rest
def RArm' (V:Fz):Arm->List Value->Prop
 | .mk con vars body,cs=>∃s b,cs=.string con::s::b/\b.length=5/\SliceOf RStr V 1 s vars/\REx' V body b
def RArms' (V:Fz):List Arm->List Value->Prop
 | [],cs=>cs=[]
 | x::xs,cs=>∃c rest,cs=c++rest/\c.length=7/\RArm' V x c/\RArms' V xs rest
end
def REx (V:Fz) (cs:List Value) (x:Ex):Prop:=REx' V x cs
def RArm (V:Fz) (cs:List Value) (x:Arm):Prop:=RArm' V x cs
theorem REs'.iff {V:Fz}:∀{xs:List Ex} {cs:List Value},REs' V xs cs↔Chunks (REx V) 5 cs xs
 | [],cs=>by simp only [REs',Chunks]
 | x::xs,cs=>by simp only [REs',Chunks,REs'.iff (xs:=xs),REx]
theorem RArms'.iff {V:Fz}:∀{xs:List Arm} {cs:List Value},RArms' V xs cs↔Chunks (RArm V) 7 cs xs
 | [],cs=>by simp only [RArms',Chunks]
 | x::xs,cs=>by simp only [RArms',Chunks,RArms'.iff (xs:=xs),RArm]
theorem REx.iff {V:Fz} {cs:List Value} {x:Ex}:REx V cs x↔∃s t,cs=[.int .i64 x.kind,.int .i64 x.num,.string x.name,s,t]/\I64 x.num/\SliceOf REx V 5 s x.args/\SliceOf RArm V 7 t x.arms:=by
 cases x with
 | mk kind num name args arms=>
  simp only [REx,REx',REs'.iff,RArms'.iff,Ex.kind,Ex.num,Ex.name,Ex.args,Ex.arms,SliceOf]
  constructor
  ·rintro ⟨s,t,d,f,h1,h2,a,b,c,e⟩;exact ⟨s,t,h1,h2,⟨d,a,b⟩,f,c,e⟩
  ·rintro ⟨s,t,h1,h2,⟨d,a,b⟩,f,c,e⟩;exact ⟨s,t,d,f,h1,h2,a,b,c,e⟩
theorem RArm.iff {V:Fz} {cs:List Value} {x:Arm}:RArm V cs x↔∃s b,cs=.string x.con::s::b/\SliceOf RStr V 1 s x.vars/\REx V b x.body:=by
 cases x with
 | mk con vars body=>
  simp only [RArm,RArm',Arm.con,Arm.vars,Arm.body,REx]
  constructor
  ·rintro ⟨s,b,h1,_,c,a⟩;exact ⟨s,b,h1,c,a⟩
  ·rintro ⟨s,b,h1,c,a⟩
   refine ⟨s,b,h1,?_,c,a⟩
   obtain ⟨s,t,rfl,_⟩:=REx.iff.1 (show REx V b body from a)
   rfl
mutual
theorem REx'.mono {V Ψ:Fz} (hl:V.Le Ψ):∀{x:Ex} {cs:List Value},REx' V x cs->REx' Ψ x cs
 | .mk _ _ _ _ _,_,⟨s,t,d,f,h1,h2,a,e,g,i⟩=>⟨s,t,d,f,h1,h2,a.mono hl,REs'.mono hl e,g.mono hl,RArms'.mono hl i⟩
theorem REs'.mono {V Ψ:Fz} (hl:V.Le Ψ):∀{xs:List Ex} {cs:List Value},REs' V xs cs->REs' Ψ xs cs
 | [],_,h=>h
 | _::_,_,⟨c,rest,h1,h2,a,e⟩=>⟨c,rest,h1,h2,REx'.mono hl a,REs'.mono hl e⟩
theorem RArm'.mono {V Ψ:Fz} (hl:V.Le Ψ):∀{x:Arm} {cs:List Value},RArm' V x cs->RArm' Ψ x cs
 | .mk _ _ _,_,⟨s,b,h1,h2,a,e⟩=>⟨s,b,h1,h2,a.mono RStr.mono hl,REx'.mono hl e⟩
theorem RArms'.mono {V Ψ:Fz} (hl:V.Le Ψ):∀{xs:List Arm} {cs:List Value},RArms' V xs cs->RArms' Ψ xs cs
 | [],_,h=>h
 | _::_,_,⟨c,rest,h1,h2,a,e⟩=>⟨c,rest,h1,h2,RArm'.mono hl a,RArms'.mono hl e⟩
end
theorem REx.mono (V Ψ:Fz) (c:List Value) (x:Ex) (hl:V.Le Ψ) (h:REx V c x):REx Ψ c x:=REx'.mono hl h
theorem REx.up {V Ψ:Fz} {c:List Value} {x:Ex} (h:REx V c x) (l:V.Le Ψ):REx Ψ c x:=REx.mono _ _ _ _ l h
theorem RArm.mono (V Ψ:Fz) (c:List Value) (x:Arm) (hl:V.Le Ψ) (h:RArm V c x):RArm Ψ c x:=RArm'.mono hl h
theorem RArm.up {V Ψ:Fz} {c:List Value} {x:Arm} (h:RArm V c x) (l:V.Le Ψ):RArm Ψ c x:=RArm.mono _ _ _ _ l h
def RParam (_:Fz) (cs:List Value) (x:Param):Prop:=cs=[.string x.name,.string x.type]
theorem RParam.mono (V Ψ:Fz) (c:List Value) (x:Param) (_:V.Le Ψ) (h:RParam V c x):RParam Ψ c x:=h
def RCon (V:Fz) (cs:List Value) (x:Con):Prop:=∃s,cs=[.string x.name,s]/\SliceOf RStr V 1 s x.fields
theorem RCon.mono (V Ψ:Fz) (c:List Value) (x:Con) (hl:V.Le Ψ) (h:RCon V c x):RCon Ψ c x:=let ⟨s,h1,h2⟩:=h;⟨s,h1,h2.mono RStr.mono hl⟩
def RData (V:Fz) (cs:List Value) (x:Data):Prop:=∃s,cs=[.string x.name,s]/\SliceOf RCon V 2 s x.cons
theorem RData.mono (V Ψ:Fz) (c:List Value) (x:Data) (hl:V.Le Ψ) (h:RData V c x):RData Ψ c x:=let ⟨s,h1,h2⟩:=h;⟨s,h1,h2.mono RCon.mono hl⟩
theorem RData.up {V Ψ:Fz} {c:List Value} {x:Data} (h:RData V c x) (l:V.Le Ψ):RData Ψ c x:=RData.mono _ _ _ _ l h
def RFun (V:Fz) (cs:List Value) (x:Fun):Prop:=∃s b,cs=.string x.name::s::.string x.result::b/\SliceOf RParam V 2 s x.params/\REx V b x.body
theorem RFun.mono (V Ψ:Fz) (c:List Value) (x:Fun) (hl:V.Le Ψ) (h:RFun V c x):RFun Ψ c x:=let ⟨s,b,h1,h2,a⟩:=h;⟨s,b,h1,h2.mono RParam.mono hl,REx.mono _ _ _ _ hl a⟩
theorem RFun.up {V Ψ:Fz} {c:List Value} {x:Fun} (h:RFun V c x) (l:V.Le Ψ):RFun Ψ c x:=RFun.mono _ _ _ _ l h
def RCore (V:Fz) (cs:List Value) (x:Core):Prop :=
 ∃s t u v,cs=[s,t,u,v]/\SliceOf RData V 2 s x.datas/\SliceOf RParam V 2 t x.inputs/\SliceOf RFun V 8 u x.funs/\SliceOf RStr V 1 v x.outputs
theorem RCore.mono (V Ψ:Fz) (c:List Value) (x:Core) (hl:V.Le Ψ) (h:RCore V c x):RCore Ψ c x :=
 let ⟨s,t,u,v,h1,h2,a,b,d⟩:=h;⟨s,t,u,v,h1,h2.mono RData.mono hl,a.mono RParam.mono hl,b.mono RFun.mono hl,d.mono RStr.mono hl⟩
theorem RCore.up {V Ψ:Fz} {c:List Value} {x:Core} (h:RCore V c x) (l:V.Le Ψ):RCore Ψ c x:=RCore.mono _ _ _ _ l h
def RNamed (V:Fz) (cs:List Value) (x:Named):Prop:=∃b,cs=.string x.name::b/\RVal V b x.value
theorem RNamed.mono (V Ψ:Fz) (c:List Value) (x:Named) (hl:V.Le Ψ) (h:RNamed V c x):RNamed Ψ c x:=let ⟨b,h1,h2⟩:=h;⟨b,h1,RVal.mono _ _ _ _ hl h2⟩
theorem RNamed.up {V Ψ:Fz} {c:List Value} {x:Named} (h:RNamed V c x) (l:V.Le Ψ):RNamed Ψ c x:=RNamed.mono _ _ _ _ l h
theorem zA {α:Type} {l:List α} {i:Nat} {x:α} (h:l[i]? = some x):l.drop i=x::l.drop (i+1):=by
 obtain ⟨h1,h2⟩:=List.getElem?_eq_some_iff.1 h
 rw [<- h2];exact List.drop_eq_getElem_cons h1
theorem jC {α:Type} {l:List α} {i:Nat} (h:i < l.length):∃x,l[i]? = some x:=⟨_,List.getElem?_eq_getElem h⟩
theorem q4r {α:Type} {l:List α} {i:Nat} (h:i < l.length):l≠[]:=by rintro rfl;simp at h
end Go.Sw

namespace Go.Sw
def yP {σ α:Type} (step:σ->α->Bool×σ):σ->List α->Nat->Int×σ
 | s,[],_=>(-1,s)
 | s,x::xs,i=>if (step s x).1 then ((i:Int),(step s x).2) else yP step (step s x).2 xs (i+1)
def z3h {σ α:Type} (step:σ->α->Bool×σ):σ->List α->Bool
 | _,[]=>false
 | s,x::xs=>if (step s x).1 then true else z3h step (step s x).2 xs
theorem kL {σ α:Type} (step:σ->α->Bool×σ):∀(l:List α) (s:σ) (i:Nat),decide (0<=(yP step s l i).1)=z3h step s l
 | [],s,i=>by simp [yP,z3h]
 | x::xs,s,i=>by
  simp only [yP,z3h]
  split
  ·simp
  ·exact kL step xs (step s x).2 (i+1)
theorem nL {σ α:Type} {p:α->Bool} {s:σ}:∀(l:List α),z3h (fun (s:σ) x=>(p x,s)) s l=l.any p
 | []=>rfl
 | x::xs=>by simp only [z3h,nL xs,List.any_cons];cases p x <;> rfl
theorem zE {α:Type} {l:List α} {i:Nat} (h:¬i < l.length):l.drop i=[]:=List.drop_of_length_le (by omega)
mutual
def xN:Nat->Ex->Bool
 | 0,_=>true
 | n+1,.mk _ _ _ args arms=>deepPs n args || deepPa n arms
def deepPs:Nat->List Ex->Bool
 | _,[]=>false
 | n,e::es=>xN n e || deepPs n es
def deepPa:Nat->List Arm->Bool
 | _,[]=>false
 | n,.mk _ _ b::es=>xN n b || deepPa n es
end
theorem q0m (n:Nat):∀l:List Ex,deepPs n l=l.any (xN n)
 | []=>rfl
 | e::es=>by simp only [deepPs,List.any_cons,q0m n es]
theorem q0l (n:Nat):∀l:List Arm,deepPa n l=l.any (fun a=>xN n a.body)
 | []=>rfl
 | .mk _ _ b::es=>by simp only [deepPa,List.any_cons,q0l n es,Arm.body]
theorem z4b (n:Nat) (e:Ex):xN (n+1) e=(e.args.any (xN n) || e.arms.any (fun a=>xN n a.body)):=by
 cases e;simp only [xN,q0m,q0l,Ex.args,Ex.arms]
theorem y3r (e:Ex):xN 0 e=true:=by cases e;rfl
mutual
def wD:Ex->Bool
 | .mk k _ _ args arms=>decide (k=3) || readsPs args || readsPa arms
def readsPs:List Ex->Bool
 | []=>false
 | e::es=>wD e || readsPs es
def readsPa:List Arm->Bool
 | []=>false
 | .mk _ _ b::es=>wD b || readsPa es
end
theorem y6o:∀l:List Ex,readsPs l=l.any wD
 | []=>rfl
 | e::es=>by simp only [readsPs,List.any_cons,y6o es]
theorem y6n:∀l:List Arm,readsPa l=l.any (fun a=>wD a.body)
 | []=>rfl
 | .mk _ _ b::es=>by simp only [readsPa,List.any_cons,y6n es,Arm.body]
theorem z8v (e:Ex):wD e=(decide (e.kind=3) || e.args.any wD || e.arms.any (fun a=>wD a.body)):=by
 cases e;simp only [wD,y6o,y6n,Ex.args,Ex.arms];rfl
theorem mgQ {α:Type} {l:List α} {i:Nat} {a:α} (h:l[i]? = some a):a ∈ l:=List.mem_of_getElem? h
theorem lcQ {α:Type} {a:α} {l:List α}:(a::l).length=l.length+1:=rfl
theorem lnQ {α:Type}:([]:List α).length=0:=rfl
theorem laQ {α:Type} {a b:List α}:(a++b).length=a.length+b.length:=List.length_append
theorem msQ {α:Type} {a:α} {l:List α}:a ∈ a::l:=List.mem_cons_self
theorem mcQ {α:Type} {a:α} {l:List α} (y:α) (h:a ∈ l):a ∈ y::l:=List.mem_cons_of_mem y h
theorem baQ (a b:Bool):((a&&b)=true)=(a=true/\b=true):=Bool.and_eq_true a b
end Go.Sw
