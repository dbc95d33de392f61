import Derived.Tactics
import Derived.Laws.AppendOwn
import Derived.KernelRfl
import Derived.Still
import Derived.OrdersIn
import Derived.RangeFuncCalls
import Derived.OwnWalkIn
import Derived.Laws.Strings
import Derived.Laws.Tables
import Derived.Laws.CopyRow
import Derived.Laws.Entries
import Derived.Deep.LoopGhost
set_option linter.unusedVariables false
set_option linter.unusedSimpArgs false
namespace Go.Sw
def get:List (Nat×Value)→Nat→Option Value
 | [],_=>none
 | (n,v)::E,t=>bif Nat.beq n t then some v else get E t
def ev (E:List (Nat×Value)):Operand→Option Value
 | .tmp t=>get E t
 | .const v=>some v
 | .global g=>some (.pointer (some ⟨g,0,none⟩))
 | .func f=>some (.func (.func f) #[] #[])
def evs (E:List (Nat×Value)):List Operand→Option (List Value)
 | []=>some []
 | x::xs=>match ev E x,evs E xs with
  | some v,some vs=>some (v::vs)
  | _,_=>none
structure EnvR (n:Nat) (E:List (Nat×Value)) (D:List Deferred) (a:Act):Prop where
 size:a.tmps.size=n
 env:∀t v,get E t=some v→a.tmps[t]? = some v
 defs:a.defers=D
section
variable {n:Nat} {E:List (Nat×Value)} {D:List Deferred} {a:Act}
theorem EnvR.ev (h:EnvR n E D a) {x:Operand} {v:Value} (hx:ev E x=some v):a.eval x=v:=by
 cases x with
 | tmp t=>have:=h.env t v hx;simp [Act.eval,Array.getD_eq_getD_getElem?,this]
 | const c=>simp only [Sw.ev,Option.some.injEq] at hx;exact hx
 | global g=>simp only [Sw.ev,Option.some.injEq] at hx;exact hx
 | func f=>simp only [Sw.ev,Option.some.injEq] at hx;exact hx
theorem EnvR.evs (h:EnvR n E D a):∀{xs:List Operand} {vs:List Value},evs E xs=some vs→xs.map a.eval=vs
 | [],vs,hx=>by simp [Sw.evs] at hx;simp [hx]
 | x::xs,vs,hx=>by
  simp only [Sw.evs] at hx
  split at hx
  ·rename_i v vs' h1 h2
   simp only [Option.some.injEq] at hx
   subst hx
   simp [h.ev h1,EnvR.evs h h2]
  ·cases hx
theorem EnvR.evsA (h:EnvR n E D a) {xs:Array Operand} {vs:List Value} (hx:Sw.evs E xs.toList=some vs):xs.map a.eval=vs.toArray:=by
 apply Array.ext'
 simp [h.evs hx]
theorem kA {E:List (Nat×Value)} {d t:Nat} {v u:Value} (hu:get ((d,v)::E) t=some u):(d=t∧v=u)∨(d≠t∧get E t=some u):=by
 simp only [get] at hu
 cases hb:Nat.beq d t with
 | true =>
  have:d=t:=by simpa using hb
  simp only [hb,cond_true,Option.some.injEq] at hu
  exact .inl ⟨this,hu⟩
 | false =>
  simp only [hb,cond_false] at hu
  exact .inr ⟨Nat.ne_of_beq_eq_false hb,hu⟩
theorem EnvR.put (h:EnvR n E D a) {d:Nat} {v:Value} (hd:Nat.blt d n=true):EnvR n ((d,v)::E) D (a.put (some d) v):=by
 have hd':d < n:=by simpa [Nat.blt_eq] using hd
 refine ⟨by simp [Act.put,h.size],fun t u hu =>?_,by simp [Act.put,h.defs]⟩
 rcases kA hu with ⟨rfl,rfl⟩ | ⟨hne,hu⟩
 ·simp [Act.put,h.size,hd']
 ·simp only [Act.put]
  rw [Array.getElem?_setIfInBounds_ne hne]
  exact h.env t u hu
theorem EnvR.put_none (h:EnvR n E D a) {v:Value}:EnvR n E D (a.put none v):=by simpa [Act.put] using h
theorem EnvR.sub (h:EnvR n E D a) {E':List (Nat×Value)} (hs:∀t v,get E' t=some v→get E t=some v):EnvR n E' D a :=
 ⟨h.size,fun t v hv=>h.env t v (hs t v hv),h.defs⟩
def Sub:List (Nat×Value)→List (Nat×Value)→Prop
 | [],_=>True
 | (t,v)::E',E=>get E t=some v∧Sub E' E
theorem EnvR.of_sub (h:EnvR n E D a) {E':List (Nat×Value)} (hs:Sub E' E):EnvR n E' D a:=by
 refine h.sub ?_
 clear h
 induction E' with
 | nil=>intro t v hv;simp [get] at hv
 | cons p E' ih =>
  intro t v hv
  rcases kA hv with ⟨rfl,rfl⟩ | ⟨_,hv⟩
  ·exact hs.1
  ·exact ih hs.2 t v hv
def y7q (t:Nat):List (Nat×Value)→Bool
 | []=>false
 | (u,_)::E=>bif Nat.beq u t then true else y7q t E
theorem z9p {t:Nat}:∀{E:List (Nat×Value)},y7q t E=false→get E t=none
 | [],_=>rfl
 | (u,v)::E,h=>by
  simp only [y7q] at h
  cases hb:Nat.beq u t with
  | true=>simp [hb] at h
  | false =>
   simp only [hb,cond_false] at h
   simp only [get,hb,cond_false]
   exact z9p h
def q8q:Nat→List (Nat×Value)→Bool
 | 0,_=>true
 | _+1,[]=>true
 | k+1,(t,_)::E=>(!y7q t (E.drop k))&&q8q k E
theorem y4s:∀(k:Nat) (E:List (Nat×Value)),q8q k E=true→∀t v,get (E.drop k) t=some v→get E t=some v
 | 0,_,_,_,_,h=>h
 | _+1,[],_,_,_,h=>h
 | k+1,(u,x)::E,hd,t,v,h=>by
  simp only [q8q,Bool.and_eq_true,Bool.not_eq_true'] at hd
  have h':get E t=some v:=y4s k E hd.2 t v h
  have hne:Nat.beq u t=false:=by
   cases hb:Nat.beq u t with
   | false=>rfl
   | true =>
    have:u=t:=by simpa using hb
    subst this
    have:=z9p hd.1
    simp only [List.drop_succ_cons] at h
    rw [h] at this;cases this
  simp only [get,hne,cond_false];exact h'
theorem EnvR.drop (h:EnvR n E D a) (k:Nat) (hk:q8q k E=true):EnvR n (E.drop k) D a:=h.sub (y4s k E hk)
end
structure Fz where
 obj:Nat→Option Obj
 os:Os
 out:Array (Nat×ByteArray)
structure Fz.Le (Φ Ψ:Fz):Prop where
 obj:∀b o,Φ.obj b=some o→Ψ.obj b=some o
 os:Ψ.os=Φ.os
 out:Ψ.out=Φ.out
theorem Fz.Le.refl (Φ:Fz):Φ.Le Φ:=⟨fun _ _ h=>h,rfl,rfl⟩
theorem Fz.Le.trans {Φ Ψ Χ:Fz} (h:Φ.Le Ψ) (h':Ψ.Le Χ):Φ.Le Χ:=⟨fun b o hb=>h'.obj b o (h.obj b o hb),h'.os.trans h.os,h'.out.trans h.out⟩
def Fz.add (Φ:Fz) (b:Nat) (o:Obj):Fz:={ Φ with obj:=fun c=>if c=b then some o else Φ.obj c }
theorem Fz.le_add {Φ:Fz} {b:Nat} (h:Φ.obj b=none) (o:Obj):Φ.Le (Φ.add b o) :=
 ⟨fun c x hc=>by
  simp only [Fz.add];split
  ·subst_vars;rw [h] at hc;cases hc
  ·exact hc,rfl,rfl⟩
structure At (Φ:Fz) (p:Addr) (cs:List Value):Prop where
 spot:p.spot=none
 ex:∃arr T fr,Φ.obj p.block=some (.cells arr T fr)∧∀j v,cs[j]? = some v→arr[p.off+j]? = some v
theorem At.mono {Φ Ψ:Fz} {p:Addr} {cs:List Value} (h:At Φ p cs) (hl:Φ.Le Ψ):At Ψ p cs :=
 ⟨h.spot,let ⟨arr,T,fr,h1,h2⟩:=h.ex;⟨arr,T,fr,hl.obj _ _ h1,h2⟩⟩
structure MapOk (es:Array MapEntry) (clock:Nat) (m:List (ByteArray×Value)):Prop where
 eq:es.toList.map (fun e=>(e.key,e.val))=m.map (fun p=>(Value.string p.1,p.2))
 old:∀e∈es.toList,e.born < clock
 nodup:(es.toList.map (·.born)).Nodup
structure MapOkI (es:Array MapEntry) (clock:Nat) (m:List (Int×Value)):Prop where
 eq:es.toList.map (fun e=>(e.key,e.val))=m.map (fun p=>(Value.int .i64 p.1,p.2))
 old:∀e∈es.toList,e.born < clock
 nodup:(es.toList.map (·.born)).Nodup
inductive Res where
 | blk (b:Nat) (o:Obj)
 | gs (v:Value) (T:TypeId) (k:Nat) (cs:List Value)
 | mp (b:Nat) (m:List (ByteArray×Value))
 | imp (b:Nat) (m:List (Int×Value))
def Res.foot:Res→Option Nat
 | .blk b _=>some b
 | .gs v _ _ _=>v.ownBlock
 | .mp b _=>some b
 | .imp b _=>some b
def Res.sat (w:World):Res→Prop
 | .blk b o=>w.heap[b]? = some o
 | .gs v T k cs=>∃n,w.ownsRow 0 T k v n cs
 | .mp b m=>∃es clock,w.heap[b]? = some (.map es clock)∧MapOk es clock m
 | .imp b m=>∃es clock,w.heap[b]? = some (.map es clock)∧MapOkI es clock m
def cW (K:List Res):List Nat:=K.filterMap Res.foot
structure Sees (Φ:Fz) (K:List Res) (w:World):Prop where
 fz:∀b o,Φ.obj b=some o→w.heap[b]? = some o
 own:∀r∈K,r.sat w
structure Mem (Φ:Fz) (K:List Res) (w:World):Prop extends Sees Φ K w where
 os:w.os=Φ.os
 out:w.output=Φ.out
 nodup:(cW K).Nodup
 apart:∀b∈cW K,Φ.obj b=none
def qJ:List Res→Nat→Option Res
 | [],_=>none
 | x::_,0=>some x
 | _::K,i+1=>qJ K i
def wK:List Res→Nat→Res→List Res
 | [],_,_=>[]
 | _::K,0,r=>r::K
 | x::K,i+1,r=>x::wK K i r
def gH:List Res→Nat→List Res
 | [],_=>[]
 | _::K,0=>K
 | x::K,i+1=>x::gH K i
theorem qH:∀{K:List Res} {i:Nat} {r:Res},qJ K i=some r→r∈K
 | [],_,_,h=>by simp [qJ] at h
 | x::_,0,r,h=>by simp only [qJ,Option.some.injEq] at h;subst h;exact List.mem_cons_self
 | _::K,i+1,r,h=>List.mem_cons_of_mem _ (qH (K:=K) (i:=i) h)
theorem uM:∀{K:List Res} {i:Nat} {r:Res},qJ K i=some r→K.Perm (r::gH K i)
 | [],_,_,h=>by simp [qJ] at h
 | x::K,0,r,h=>by simp only [qJ,Option.some.injEq] at h;subst h;exact .refl _
 | x::K,i+1,r,h=>by
  have:=uM (K:=K) (i:=i) h
  exact (this.cons x).trans (.swap _ _ _)
theorem z4n:∀{K:List Res} {i:Nat} {r:Res},qJ K i=some r→∀r',(wK K i r').Perm (r'::gH K i)
 | [],_,_,h,_=>by simp [qJ] at h
 | x::K,0,r,h,_=>.refl _
 | x::K,i+1,r,h,r'=>by
  have:=z4n (K:=K) (i:=i) h r'
  exact (this.cons x).trans (.swap _ _ _)
section
variable {Φ Ψ:Fz} {K K':List Res} {w w':World} {r r':Res}
theorem Res.lt (h:r.sat w) {b:Nat} (hb:r.foot=some b):b < w.heap.size:=by
 cases r with
 | blk c o=>simp only [Res.foot,Option.some.injEq] at hb;subst hb;exact (Array.getElem?_eq_some_iff.1 h).1
 | gs v T k cs=>obtain ⟨n,h⟩:=h;exact (h.lt b hb).2
 | mp c m=>obtain ⟨es,clock,h,_⟩:=h;simp only [Res.foot,Option.some.injEq] at hb;subst hb;exact (Array.getElem?_eq_some_iff.1 h).1
 | imp c m=>obtain ⟨es,clock,h,_⟩:=h;simp only [Res.foot,Option.some.injEq] at hb;subst hb;exact (Array.getElem?_eq_some_iff.1 h).1
theorem Res.sat_same (h:r.sat w) (hs:∀b,r.foot=some b→w'.heap[b]? = w.heap[b]?):r.sat w':=by
 cases r with
 | blk c o=>simp only [Res.sat] at h ⊢;rw [hs c rfl];exact h
 | gs v T k cs =>
  obtain ⟨n,h1,h2⟩:=h
  refine ⟨n,h1,?_⟩
  rcases h2 with h2 | ⟨g,cap,cur,rfl,hb,hg,rest⟩
  ·exact .inl h2
  ·exact .inr ⟨g,cap,cur,rfl,hb,by rw [hs g rfl];exact hg,rest⟩
 | mp c m =>
  obtain ⟨es,clock,h1,h2⟩:=h
  exact ⟨es,clock,by rw [hs c rfl];exact h1,h2⟩
 | imp c m =>
  obtain ⟨es,clock,h1,h2⟩:=h
  exact ⟨es,clock,by rw [hs c rfl];exact h1,h2⟩
theorem Mem.perm (h:Mem Φ K w) (hp:K.Perm K'):Mem Φ K' w :=
 have hk:(cW K).Perm (cW K'):=hp.filterMap _
 { fz:=h.fz,own:=fun r hr=>h.own r (hp.mem_iff.2 hr),os:=h.os,out:=h.out,nodup:=hk.nodup_iff.1 h.nodup,apart:=fun b hb=>h.apart b (hk.mem_iff.2 hb) }
theorem mem_keys {b:Nat}:b∈cW K↔∃r∈K,r.foot=some b:=by simp [cW]
theorem Mem.lt (h:Mem Φ K w) {b:Nat} (hb:b∈cW K):b < w.heap.size:=by
 obtain ⟨r,hr,hf⟩:=mem_keys.1 hb
 exact Res.lt (h.own r hr) hf
theorem Mem.drew (h:Mem Φ K w):Mem Φ K { w with drawn:=w.drawn+1 }:={ h with own:=fun r hr=>Res.sat_same (h.own r hr) (fun _ _=>rfl) }
theorem Mem.fzlt (h:Mem Φ K w) {b:Nat} {o:Obj} (hb:Φ.obj b=some o):b < w.heap.size:=(Array.getElem?_eq_some_iff.1 (h.fz b o hb)).1
theorem Mem.head (h:Mem Φ (r::K) w) (hos:w'.os=w.os) (hout:w'.output=w.output)
  (hsame:∀b,b < w.heap.size→some b≠r.foot→w'.heap[b]? = w.heap[b]?) (hsat:r'.sat w') (hfoot:r'.foot=r.foot∨∀b,r'.foot=some b→w.heap.size≤b):Mem Φ (r'::K) w':=by
 have hn:∀b,r.foot=some b→b∉cW K:=fun b hb hc=>by
  have:=h.nodup
  simp only [cW,List.filterMap_cons,hb,List.nodup_cons] at this
  exact this.1 hc
 have hnK:(cW K).Nodup:=by
  have:=h.nodup
  simp only [cW,List.filterMap_cons] at this
  split at this
  ·exact this
  ·exact (List.nodup_cons.1 this).2
 have hkK:∀b,b∈cW K→b∈cW (r::K):=fun b hb=>by
  obtain ⟨x,hx,hf⟩:=mem_keys.1 hb
  exact mem_keys.2 ⟨x,List.mem_cons_of_mem _ hx,hf⟩
 refine { fz:=fun b o hb =>?_,own:=fun x hx =>?_,os:=hos.trans h.os,out:=hout.trans h.out,nodup := ?_,apart:=fun b hb =>?_ }
 ·rw [hsame b (h.fzlt hb) (fun e=>by
   have:=h.apart b (mem_keys.2 ⟨r,List.mem_cons_self,e.symm⟩)
   rw [this] at hb;cases hb)]
  exact h.fz b o hb
 ·rcases List.mem_cons.1 hx with rfl | hx
  ·exact hsat
  ·have hx':=h.own x (List.mem_cons_of_mem _ hx)
   refine Res.sat_same hx' fun b hb=>hsame b (Res.lt hx' hb) fun e=>hn b e.symm (mem_keys.2 ⟨x,hx,hb⟩)
 ·cases hf:r'.foot with
  | none=>simp only [cW,List.filterMap_cons,hf];exact hnK
  | some b =>
   simp only [cW,List.filterMap_cons,hf,List.nodup_cons]
   refine ⟨fun hc =>?_,hnK⟩
   rcases hfoot with e | e
   ·exact hn b (e▸hf) hc
   ·have:=h.lt (hkK b hc);have:=e b hf;omega
 ·obtain ⟨x,hx,hf⟩:=mem_keys.1 hb
  rcases List.mem_cons.1 hx with rfl | hx
  ·rcases hfoot with e | e
   ·exact h.apart b (mem_keys.2 ⟨r,List.mem_cons_self,e▸hf⟩)
   ·cases ho:Φ.obj b with
    | none=>rfl
    | some o=>have:=h.fzlt ho;have:=e b hf;omega
  ·exact h.apart b (hkK b (mem_keys.2 ⟨x,hx,hf⟩))
theorem Mem.upd (h:Mem Φ K w) {i:Nat} (hk:qJ K i=some r) (hos:w'.os=w.os) (hout:w'.output=w.output)
  (hsame:∀b,b < w.heap.size→some b≠r.foot→w'.heap[b]? = w.heap[b]?) (hsat:r'.sat w') (hfoot:r'.foot=r.foot∨∀b,r'.foot=some b→w.heap.size≤b):Mem Φ (wK K i r') w' :=
 ((h.perm (uM hk)).head hos hout hsame hsat hfoot).perm (z4n hk r').symm
theorem Mem.more (h:Mem Φ K w) (hos:w'.os=w.os) (hout:w'.output=w.output) (hsame:∀b,b < w.heap.size→w'.heap[b]? = w.heap[b]?)
  (hsat:r.sat w') (hfoot:∀b,r.foot=some b→w.heap.size≤b):Mem Φ (r::K) w':=by
 have h0:Mem Φ (.gs (.slice none 0 0) 0 0 []::K) w :=
  { fz:=h.fz,own:=(fun x hx=>(List.mem_cons.1 hx).elim (fun e=>by subst e;exact ⟨0,World.ownsRow_nil w 0 0 0⟩) (fun hx=>h.own x hx)),os:=h.os,out:=h.out,nodup:=(show (cW K).Nodup from h.nodup),apart:=fun b hb=>h.apart b (show b∈cW K from hb) }
 exact h0.head hos hout (fun b hb _=>hsame b hb) hsat (.inr hfoot)
theorem Mem.nilRow (h:Mem Φ K w) (T:TypeId) (k:Nat):Mem Φ (.gs (.slice none 0 0) T k []::K) w :=
 h.more rfl rfl (fun _ _=>rfl) ⟨0,World.ownsRow_nil w 0 T k⟩ (by simp [Res.foot,Value.ownBlock])
theorem Mem.tail (h:Mem Φ (r::K) w):Mem Φ K w :=
 { fz:=h.fz,own:=fun x hx=>h.own x (List.mem_cons_of_mem _ hx),os:=h.os,out:=h.out,nodup:=(by
   have:=h.nodup
   simp only [cW,List.filterMap_cons] at this
   split at this
   ·exact this
   ·exact (List.nodup_cons.1 this).2),apart:=(fun b hb=>by
   obtain ⟨x,hx,hf⟩:=mem_keys.1 hb
   exact h.apart b (mem_keys.2 ⟨x,List.mem_cons_of_mem _ hx,hf⟩)) }
theorem Mem.del (h:Mem Φ K w) (i:Nat):Mem Φ (gH K i) w:=by
 cases hk:qJ K i with
 | some r=>exact (h.perm (uM hk)).tail
 | none =>
  have:∀(K:List Res) i,qJ K i=none→gH K i=K:=by
   intro K
   induction K with
   | nil=>intro i _;rfl
   | cons x K ih =>
    intro i hi
    cases i with
    | zero=>simp [qJ] at hi
    | succ i=>simp only [qJ] at hi;simp only [gH,ih i hi]
  rw [this K i hk];exact h
theorem Mem.pull (h:Mem Φ K w) {i:Nat} (hk:qJ K i=some r):Mem Φ (r::gH K i) w:=h.perm (uM hk)
theorem Mem.put {i:Nat} (h:Mem Φ (r::K) w) (hk:qJ K' i=some r') (hK:gH K' i=K):Mem Φ (wK K' i r) w :=
 h.perm (hK▸(z4n hk r).symm)
theorem Mem.le (h:Mem Φ K w) (hl:Ψ.Le Φ):Mem Ψ K w :=
 { fz:=fun b o hb=>h.fz b o (hl.obj b o hb),own:=h.own,os:=h.os.trans hl.os,out:=h.out.trans hl.out,nodup:=h.nodup,apart:=(fun b hb=>by
   cases ho:Ψ.obj b with
   | none=>rfl
   | some o=>have:=h.apart b hb;rw [hl.obj b o ho] at this;cases this) }
theorem Mem.no (h:Mem Φ (r::K) w) {b:Nat} (hb:r.foot=some b):Φ.obj b=none:=h.apart b (mem_keys.2 ⟨r,List.mem_cons_self,hb⟩)
theorem Mem.freezeHead (h:Mem Φ (r::K) w) {b:Nat} {o:Obj} (hb:r.foot=some b) (ho:w.heap[b]? = some o):Mem (Φ.add b o) K w :=
 have ht:=h.tail
 { fz:=(fun c x hc=>by
   simp only [Fz.add] at hc
   split at hc
   ·subst_vars;simp only [Option.some.injEq] at hc;subst hc;exact ho
   ·exact h.fz c x hc),own:=ht.own,os:=h.os,out:=h.out,nodup:=ht.nodup,apart:=(fun c hc=>by
   have hne:c≠b:=fun e=>by
    have:=h.nodup
    simp only [cW,List.filterMap_cons,hb,List.nodup_cons] at this
    exact this.1 (e▸hc)
   simp only [Fz.add,if_neg hne]
   exact ht.apart c hc) }
end
end Go.Sw

namespace Go.Sw
section
variable {P:Program} {ops:Array Oper} {md:Region.Mode} {B:World→Prop} {kd:List Nat} {Qp:List PanicEntry→World→Prop} {D:List Deferred}
def vZ (P:Program) (K:Value→World→Prop) (Qp:List PanicEntry→World→Prop):Result Next→Prop
 | .ok (.value v) w'=>K v w'
 | .ok .skip w'=>K undef w'
 | .ok (.enter f args) w'=>Calls P f args w' fun
   | .returned v,w''=>K v w''
   | .panicked chain,w''=>Qp chain w''
   | .outgrown,_=>False
 | .halt (.panic v) w'=>Qp [{ v,recovered:=false }] w'
 | _=>False
def Oper.eff (P:Program) (o:Oper) (a:Act) (w:World) (K:Value→World→Prop) (Qp:List PanicEntry→World→Prop):Prop :=
 vZ P K Qp ((execOp a.eval o).run P w)
theorem jZ {K K':Value→World→Prop} {Qp Qp':List PanicEntry→World→Prop} {r:Result Next} (h:vZ P K Qp r) (hk:∀v w,K v w→K' v w) (hp:∀c w,Qp c w→Qp' c w):vZ P K' Qp' r:=by
 cases r with
 | ok n w' =>
  cases n <;> simp only [vZ] at h ⊢
  case value=>exact hk _ _ h
  case skip=>exact hk _ _ h
  case enter f args=>exact h.mono fun e w'' he=>by cases e <;> first | exact hk _ _ he | exact hp _ _ he | exact he
 | halt x w'=>cases x <;> simp only [vZ] at h ⊢;exact hp _ _ h
theorem oD {o:Oper} {a:Act} {w:World} {K:Act→World→Prop} {Q:Exit→Act→World→Prop}
  (h:Oper.eff P o a w (fun v w'=>K (a.put o.dst v) w') (fun c w'=>Q (.panic c) a w')):o.wp P a w K Q:=by
 unfold Oper.eff at h
 unfold Oper.wp
 generalize (execOp a.eval o).run P w=r at *
 cases r with
 | ok n w' =>
  cases n <;> simp only [vZ] at h <;> simp only [Oper.upon]
  case value=>exact h
  case skip=>exact h
  case enter f args=>exact h.mono fun e w'' he=>by cases e <;> first | exact he | exact he.elim
 | halt x w'=>cases x <;> simp only [vZ] at h;simp only [Oper.upon];exact h
def mU (P:Program) (K:Value→World→Prop) (Qp:List PanicEntry→World→Prop):Result Next→Prop
 | .ok (.value v) w'=>K v w'
 | .ok .skip w'=>K undef w'
 | .ok (.enter f args) w'=>Calls P f args w' fun
   | .returned v,w''=>K v w''
   | .panicked chain,w''=>Qp chain w''
   | .outgrown,_=>False
 | .ok (.round l f tmps assign body) w'=>RoundIn Fence.wide 2 P l f tmps assign body w' fun
   | .returned v,w''=>K v w''
   | .panicked chain,w''=>Qp chain w''
   | .outgrown,_=>False
 | .halt (.panic v) w'=>Qp [{ v,recovered:=false }] w'
 | _=>False
def Oper.effR (P:Program) (o:Oper) (a:Act) (w:World) (K:Value→World→Prop) (Qp:List PanicEntry→World→Prop):Prop :=
 mU P K Qp ((execOp a.eval o).run P w)
theorem jV {K K':Value→World→Prop} {Qp Qp':List PanicEntry→World→Prop} {r:Result Next} (h:mU P K Qp r) (hk:∀v w,K v w→K' v w) (hp:∀c w,Qp c w→Qp' c w):mU P K' Qp' r:=by
 cases r with
 | ok n w' =>
  cases n <;> simp only [mU] at h ⊢
  case value=>exact hk _ _ h
  case skip=>exact hk _ _ h
  case enter f args=>exact h.mono fun e w'' he=>by cases e <;> first | exact hk _ _ he | exact hp _ _ he | exact he
  case round l f tmps assign body=>exact h.mono fun e w'' he=>by cases e <;> first | exact hk _ _ he | exact hp _ _ he | exact he
 | halt x w'=>cases x <;> simp only [mU] at h ⊢;exact hp _ _ h
theorem Oper.eff.toR {o:Oper} {a:Act} {w:World} {K:Value→World→Prop} (h:Oper.eff P o a w K Qp):Oper.effR P o a w K Qp:=by
 unfold Oper.eff at h
 unfold Oper.effR
 generalize (execOp a.eval o).run P w=r at *
 cases r with
 | ok n w'=>cases n <;> simp only [vZ] at h <;> simp only [mU] <;> exact h
 | halt x w'=>cases x <;> simp only [vZ] at h;simp only [mU];exact h
end
def FO:Option Nat→Fence
 | none=>Fence.wide
 | some l=>Fence.wide.inRound l
section
variable {P:Program} {w:World} {r:Option Nat} {m:Nat}
theorem FO.calls {f:FuncId} {args:Array Value} {R:Ending→World→Prop} (h:Calls P f args w R):CallsIn (FO r) m P f args w R:=by
 have:=(callsIn_wide (n:=m)).2 h
 cases r with
 | none=>exact this
 | some l=>exact CallsIn.inRound l this
theorem FO.fn (f:FuncId):(FO r).fn f:=by cases r <;> trivial
theorem FO.depth:(FO r).depth.isSome=true→False:=by cases r <;> (intro h;cases h)
theorem q2r {k l:Nat} {f:FuncId} {tmps:Array Value} {assign body:Code} {R:Ending→World→Prop} (h:RoundIn Fence.wide 2 P l f tmps assign body w R):RoundIn (FO r) k P l f tmps assign body w R:=by
 cases r with
 | none=>exact ⟨trivial,fun c cs _=>h.2 c cs (room_wide _)⟩
 | some l'=>exact ⟨trivial,fun c cs _=>h.2 c cs (room_wide _)⟩
end
section
variable {P:Program} {ops:Array Oper} {md:Region.Mode} {B:World→Prop} {kd:List Nat} {Qp:List PanicEntry→World→Prop} {D:List Deferred}
theorem sM {r:Option Nat} {m:Nat} {o:Oper} {a:Act} {w:World} {K:Act→World→Prop} {Q:Exit→Act→World→Prop} (hop:r≠none→∀c,o.op≠.defer c)
  (h:Oper.effR P o a w (fun v w'=>K (a.put o.dst v) w') (fun c w'=>Q (.panic c) a w')):o.wpIn (FO r) m P a w K Q:=by
 refine ⟨fun f _=>FO.fn f,?_⟩
 have he:o.semAt (FO r).round a.eval=execOp a.eval o:=by
  cases r with
  | none=>rfl
  | some l=>exact Oper.semAt_plain _ _ _ (hop (fun h=>by cases h))
 rw [he]
 unfold Oper.effR at h
 generalize (execOp a.eval o).run P w=q at *
 cases q with
 | ok x w' =>
  cases x <;> simp only [mU] at h <;> simp only [Oper.uponIn]
  case value=>exact h
  case skip=>exact h
  case enter f args=>exact ⟨fun hd=>(FO.depth hd).elim,FO.calls (h.mono fun e w'' he=>by cases e <;> first | exact he | exact he.elim)⟩
  case round l f tmps assign body=>exact ⟨fun hd=>(FO.depth hd).elim,q2r (h.mono fun e w'' he=>by cases e <;> first | exact he | exact he.elim)⟩
 | halt x w'=>cases x <;> simp only [mU] at h;simp only [Oper.uponIn];exact h
def qA (kd:List Nat) (i:Nat):Nat:=kd.getD i 0
def cY (md:Region.Mode) (kd:List Nat) (o:Oper):Bool :=
 (List.range kd.length).any fun i=>qA kd i==2 && !(o.after.any fun e=>Region.binds md e&&e.on==i)
def y6x (P:Program) (B:World→Prop) (k:Nat) (o:Oper) (a:Act) (v:Value):Prop :=
 ∀w,(k=2→B w)→(execOp a.eval o).run P w=.ok (.value v) w
def vC (P:Program) (md:Region.Mode) (ops:Array Oper) (B:World→Prop) (kd:List Nat) (Qp:List PanicEntry→World→Prop) (i:Nat) (K:Act→World→Prop) (a:Act) (w:World):Prop :=
 match ops[i]? with
 | none=>K a w
 | some o =>
  if Region.wanted o (yielded ops a.tmps) then
   if qA kd i=0 then Oper.effR P o a w (fun v w'=>(cY md kd o=true→B w')∧K (a.put o.dst v) w') Qp
   else ∃v,y6x P B (qA kd i) o a v∧K (a.put o.dst v) w
  else K (a.put o.dst undef) w
def y3p (P:Program) (md:Region.Mode) (ops:Array Oper) (B:World→Prop) (kd:List Nat) (Qp:List PanicEntry→World→Prop) (Q:Act→World→Prop):Nat→Array Bool→Act→World→Prop
 | 0,listed,a,w=>Region.ready md ops listed=[]∧Q a w
 | n+1,listed,a,w=>(Region.ready md ops listed=[]→Q a w) ∧
   ∀i∈Region.ready md ops listed,vC P md ops B kd Qp i (y3p P md ops B kd Qp Q n (listed.setIfInBounds i true)) a w
theorem wF {i:Nat} {K K':Act→World→Prop} {a:Act} {w:World} (hK:∀a' w',a'.defers=a.defers→K a' w'→K' a' w') (h:vC P md ops B kd Qp i K a w):vC P md ops B kd Qp i K' a w:=by
 have hd:∀(o:Oper) v,(a.put o.dst v).defers=a.defers:=fun o v=>by cases o.dst <;> rfl
 unfold vC at *
 cases ho:ops[i]? with
 | none=>simp only [ho] at h ⊢;exact hK _ _ rfl h
 | some o =>
  simp only [ho] at h ⊢
  by_cases hw:Region.wanted o (yielded ops a.tmps)=true
  ·rw [if_pos hw] at h ⊢
   by_cases hk:qA kd i=0
   ·rw [if_pos hk] at h ⊢;exact jV h (fun v w' hv=>⟨hv.1,hK _ _ (hd o v) hv.2⟩) (fun _ _ h=>h)
   ·rw [if_neg hk] at h ⊢
    obtain ⟨v,h1,h2⟩:=h
    exact ⟨v,h1,hK _ _ (hd o v) h2⟩
  ·rw [if_neg hw] at h ⊢;exact hK _ _ (hd o _) h
theorem nJ {r:Option Nat} {m:Nat} (hnd:r≠none→∀(i:Nat) (o:Oper),ops[i]? = some o→∀c,o.op≠.defer c) {Inv:Act→Prop} (hI:∀(i:Nat) (o:Oper) (a:Act) (v:Value),ops[i]? = some o→Inv a→Inv (a.put o.dst v)) {Q:Act→World→Prop} {Q':Exit→Act→World→Prop} (hQ:∀a w,Q a w→Q' .normal a w) (hp:∀c a w,Inv a→Qp c w→Q' (.panic c) a w) :
  ∀(n:Nat) (listed:Array Bool) (a:Act) (w:World),Inv a→((List.range ops.size).any (fun i=>qA kd i==2 && !listed.getD i true)=true→B w) →
   y3p P md ops B kd Qp Q n listed a w→wpAnyIn (FO r) m P md ops Q' n listed a w:=by
 intro n
 induction n with
 | zero=>intro listed a w _ _ h;exact ⟨h.1,hQ _ _ h.2⟩
 | succ n ih =>
  intro listed a w hd hB h
  refine ⟨fun h0=>hQ _ _ (h.1 h0),fun i hi =>?_⟩
  have hi':=mem_ready.1 hi
  have hsub:((List.range ops.size).any (fun k=>qA kd k==2 && !(listed.setIfInBounds i true).getD k true)=true→B w):=fun hx=>by
   apply hB
   rw [List.any_eq_true] at hx ⊢
   obtain ⟨k,hk1,hk2⟩:=hx
   simp only [Bool.and_eq_true,beq_iff_eq,Bool.not_eq_true'] at hk2
   refine ⟨k,hk1,?_⟩
   simp only [Bool.and_eq_true,beq_iff_eq,Bool.not_eq_true']
   refine ⟨hk2.1,?_⟩
   by_cases hki:i=k
   ·subst hki;exact hi'.1
   ·rw [getD_set_ne true hki] at hk2;exact hk2.2
  have h1:=h.2 i hi
  unfold vC at h1
  unfold wpOpIn
  cases ho:ops[i]? with
  | none=>simp only [ho] at h1 ⊢;exact ih _ _ _ hd hsub h1
  | some o =>
   simp only [ho] at h1 ⊢
   by_cases hw:Region.wanted o (yielded ops a.tmps)=true
   ·rw [if_pos hw] at h1 ⊢
    refine sM (fun h=>hnd h _ _ ho) ?_
    by_cases hk:qA kd i=0
    ·rw [if_pos hk] at h1
     refine jV h1 (fun v w' hv=>ih _ _ _ (hI _ _ _ _ ho hd) (fun hx=>hv.1 ?_) hv.2) (fun c w' hc=>hp c a w' hd hc)
     rw [List.any_eq_true] at hx
     obtain ⟨k,hk1,hk2⟩:=hx
     simp only [Bool.and_eq_true,beq_iff_eq,Bool.not_eq_true'] at hk2
     unfold cY
     rw [List.any_eq_true]
     have hlt:k < kd.length:=by
      by_cases hlt:k < kd.length
      ·exact hlt
      ·have:=hk2.1
       simp [qA,List.getD_eq_getElem?_getD,List.getElem?_eq_none (Nat.le_of_not_lt hlt)] at this
     refine ⟨k,List.mem_range.2 hlt,?_⟩
     simp only [Bool.and_eq_true,beq_iff_eq,Bool.not_eq_true']
     refine ⟨hk2.1,?_⟩
     rw [← Bool.not_eq_true]
     intro hx
     obtain ⟨e,he,hb⟩:=Array.any_eq_true'.1 hx
     simp only [Bool.and_eq_true,beq_iff_eq] at hb
     obtain ⟨_,o',ho',hall⟩:=hi'
     rw [ho] at ho'
     cases ho'
     have hl:=hall e he hb.1
     rw [hb.2] at hl
     have hk3:=hk2.2
     by_cases hki:i=k
     ·subst hki
      have:=(mem_ready.1 hi).1
      rcases Nat.lt_or_ge i listed.size with h' | h'
      ·simp [h'] at hl this;rw [hl] at this;cases this
      ·simp [Array.getElem?_eq_none h'] at hl
     ·rw [getD_set_ne true hki] at hk3
      rcases Nat.lt_or_ge k listed.size with h' | h'
      ·simp [h'] at hl hk3;rw [hl] at hk3;cases hk3
      ·simp [Array.getElem?_eq_none h'] at hl
    ·rw [if_neg hk] at h1
     obtain ⟨v,h2,h3⟩:=h1
     have hr:=h2 w (fun e=>hB (by
      rw [List.any_eq_true]
      refine ⟨i,List.mem_range.2 (Array.getElem?_eq_some_iff.1 ho).1,?_⟩
      simp only [Bool.and_eq_true,beq_iff_eq,Bool.not_eq_true']
      exact ⟨e,hi'.1⟩))
     unfold Oper.effR
     rw [hr]
     exact ih _ _ _ (hI _ _ _ _ ho hd) hsub h3
   ·rw [if_neg hw] at h1 ⊢
    exact ⟨fun f _=>FO.fn f,ih _ _ _ (hI _ _ _ _ ho hd) hsub h1⟩
def aZ (P:Program) (ops:Array Oper) (B:World→Prop) (k:Nat) (o:Oper) (a:Act) (v:Value):Prop :=
 (Region.wanted o (yielded ops a.tmps)=true∧y6x P B k o a v)∨(Region.wanted o (yielded ops a.tmps)=false∧v=undef)
theorem q4j {i j:Nat} {oi oj:Oper} {v:Value} (hj:ops[j]? = some oj) (hap:oi.apart ops oj=true) (hsi:∀cs b,oi.op≠.select cs b) (hsj:∀cs b,oj.op≠.select cs b)
  {K K':Act→World→Prop} {a:Act} {w:World} (hy:aZ P ops B (qA kd i) oi a v)
  (hK:∀u w',aZ P ops B (qA kd i) oi (a.put oj.dst u) v→K ((a.put oj.dst u).put oi.dst v) w'→K' (a.put oj.dst u) w')
  (h:vC P md ops B kd Qp j K (a.put oi.dst v) w):vC P md ops B kd Qp j K' a w:=by
 obtain ⟨h1,h2,h3⟩:=Oper.apart_spec hap
 have keep:∀u,aZ P ops B (qA kd i) oi (a.put oj.dst u) v:=fun u=>by
  unfold aZ y6x at *
  rw [execOp_put oi hsi a oj.dst u h3,wanted_put oi a oj.dst u h3]
  exact hy
 have hw':=wanted_put oj a oi.dst v h1
 have he':=execOp_put oj hsj a oi.dst v h1
 unfold vC at *
 simp only [hj] at h ⊢
 rw [hw'] at h
 have fin:∀u w',K ((a.put oi.dst v).put oj.dst u) w'→K' (a.put oj.dst u) w':=fun u w' hh=>hK u w' (keep u) (by rw [← Act.put_comm a v u h2];exact hh)
 by_cases hw:Region.wanted oj (yielded ops a.tmps)=true
 ·rw [if_pos hw] at h ⊢
  by_cases hk:qA kd j=0
  ·rw [if_pos hk] at h ⊢
   unfold Oper.effR at *
   rw [he'] at h
   exact jV h (fun u w' hv=>⟨hv.1,fin u w' hv.2⟩) (fun _ _ h=>h)
  ·rw [if_neg hk] at h ⊢
   obtain ⟨u,hu,hn⟩:=h
   refine ⟨u,?_,fin u w hn⟩
   unfold y6x at *
   rw [he'] at hu
   exact hu
 ·rw [if_neg hw] at h ⊢;exact fin undef w h
theorem tA {i:Nat} {oi:Oper} {v:Value} (hi:ops[i]? = some oi) (hk:qA kd i≠0) {K:Act→World→Prop} {a:Act} {w:World} (hy:aZ P ops B (qA kd i) oi a v)
  (h:K (a.put oi.dst v) w):vC P md ops B kd Qp i K a w:=by
 unfold vC
 simp only [hi]
 rcases hy with ⟨hw,hv⟩ | ⟨hw,rfl⟩
 ·rw [if_pos hw,if_neg hk];exact ⟨v,hv,h⟩
 ·rw [if_neg (by simp [hw])];exact h
theorem sL {Q:Act→World→Prop} {i:Nat} {oi:Oper} {v:Value} (hi:ops[i]? = some oi) (hsel:∀(j:Nat) (o:Oper) cs b,ops[j]? = some o→o.op≠.select cs b) (hk:qA kd i≠0) :
  ∀(n:Nat) (listed:Array Bool) (a:Act) (w:World),
   (∀j oj,ops[j]? = some oj→j≠i→listed.getD j true=false→(∀e∈oj.after,Region.binds md e=true→e.on≠i)→oi.apart ops oj=true) →
   i∈Region.ready md ops listed→aZ P ops B (qA kd i) oi a v →
   y3p P md ops B kd Qp Q n (listed.setIfInBounds i true) (a.put oi.dst v) w→y3p P md ops B kd Qp Q (n+1) listed a w:=by
 intro n
 induction n with
 | zero =>
  intro listed a w _ hr hy H
  refine ⟨fun h=>(by rw [h] at hr;cases hr),fun j hj =>?_⟩
  by_cases hji:j=i
  ·subst hji;exact tA hi hk hy H
  ·have:=ready_mono hj hji
   rw [H.1] at this
   cases this
 | succ n ih =>
  intro listed a w hfree hr hy H
  refine ⟨fun h=>(by rw [h] at hr;cases hr),fun j hj =>?_⟩
  by_cases hji:j=i
  ·subst hji;exact tA hi hk hy H
  ·have h1:=H.2 j (ready_mono hj hji)
   obtain ⟨hjun,oj,hoj,hall⟩:=mem_ready.1 hj
   have hnot:∀e∈oj.after,Region.binds md e=true→e.on≠i:=fun e he hb heq=>by
    have h1:=hall e he hb
    have h0:=(mem_ready.1 hr).1
    rw [heq] at h1
    rcases Nat.lt_or_ge i listed.size with h' | h'
    ·simp [h'] at h0 h1;rw [h0] at h1;cases h1
    ·simp [Array.getElem?_eq_none h'] at h1
   have hfree':∀k ok,ops[k]? = some ok→k≠i→(listed.setIfInBounds j true).getD k true=false →
     (∀e∈ok.after,Region.binds md e=true→e.on≠i)→oi.apart ops ok=true:=fun k ok hk' hki hun hno=>by
    refine hfree k ok hk' hki ?_ hno
    by_cases hjk:j=k
    ·subst hjk;exact hjun
    ·rw [getD_set_ne true hjk] at hun;exact hun
   refine q4j hoj (hfree j oj hoj hji hjun hnot) (fun cs b=>hsel i oi cs b hi) (fun cs b=>hsel j oj cs b hoj) hy (fun u w' hy' h3 =>?_) h1
   refine ih _ _ _ hfree' (ready_mono hr (Ne.symm hji)) hy' ?_
   rw [Array.setIfInBounds_comm _ _ hji]
   exact h3
inductive Plan where
 | done
 | q (i:Nat) (p:Plan)
 | e (i:Nat) (p:Plan)
 | e2 (i j:Nat) (p r:Plan)
def dB (md:Region.Mode) (ops:Array Oper) (kd:List Nat):Plan→Array Bool→Bool
 | .done,l=>(Region.ready md ops l).isEmpty
 | .q i p,l=>(Region.ready md ops l).contains i&&Region.free md ops l i&&qA kd i != 0&&dB md ops kd p (l.setIfInBounds i true)
 | .e i p,l=>Region.ready md ops l==[i]&&qA kd i==0&&dB md ops kd p (l.setIfInBounds i true)
 | .e2 i j p r,l=>Region.ready md ops l==[i,j]&&qA kd i==0&&qA kd j==0&&dB md ops kd p (l.setIfInBounds i true)&&dB md ops kd r (l.setIfInBounds j true)
def Plan.len:Plan→Nat
 | .done=>0
 | .q _ p=>p.len+1
 | .e _ p=>p.len+1
 | .e2 _ _ p _=>p.len+1
def Plan.even:Plan→Bool
 | .done=>true
 | .q _ p=>p.even
 | .e _ p=>p.even
 | .e2 _ _ p r=>p.even&&r.even&&p.len==r.len
def zW (P:Program) (md:Region.Mode) (ops:Array Oper) (B:World→Prop) (kd:List Nat) (Qp:List PanicEntry→World→Prop) (Q:Act→World→Prop):Plan→Act→World→Prop
 | .done,a,w=>Q a w
 | .q i p,a,w=>vC P md ops B kd Qp i (zW P md ops B kd Qp Q p) a w
 | .e i p,a,w=>vC P md ops B kd Qp i (zW P md ops B kd Qp Q p) a w
 | .e2 i j p r,a,w=>vC P md ops B kd Qp i (zW P md ops B kd Qp Q p) a w∧vC P md ops B kd Qp j (zW P md ops B kd Qp Q r) a w
theorem xZ {Q:Act→World→Prop} (hs:Region.noSelect ops=true):∀(p:Plan) (listed:Array Bool) (a:Act) (w:World),p.even=true→dB md ops kd p listed=true →
  zW P md ops B kd Qp Q p a w→y3p P md ops B kd Qp Q p.len listed a w
 | .done,l,a,w,_,hp,h=>⟨by simpa [dB] using hp,h⟩
 | .q i p,l,a,w,hev,hp,h=>by
  simp only [dB,Bool.and_eq_true,List.contains_iff_mem,bne_iff_ne,ne_eq] at hp
  obtain ⟨⟨⟨hr,hf⟩,hk⟩,hp⟩:=hp
  obtain ⟨_,o,ho,_⟩:=mem_ready.1 hr
  unfold zW vC at h
  simp only [ho] at h
  by_cases hw:Region.wanted o (yielded ops a.tmps)=true
  ·rw [if_pos hw,if_neg hk] at h
   obtain ⟨v,h1,h2⟩:=h
   exact sL ho (Region.noSelect_spec hs) hk _ _ _ _ (Region.free_spec ho hf) hr (.inl ⟨hw,h1⟩) (xZ hs p _ _ _ hev hp h2)
  ·rw [if_neg hw] at h
   exact sL ho (Region.noSelect_spec hs) hk _ _ _ _ (Region.free_spec ho hf) hr (.inr ⟨by simpa using hw,rfl⟩) (xZ hs p _ _ _ hev hp h)
 | .e i p,l,a,w,hev,hp,h=>by
  simp only [dB,Bool.and_eq_true,beq_iff_eq] at hp
  obtain ⟨⟨hr,hk⟩,hp⟩:=hp
  simp only [Plan.len,y3p]
  refine ⟨fun h0=>(by rw [h0] at hr;cases hr),fun j hj =>?_⟩
  rw [hr,List.mem_singleton] at hj
  subst hj
  exact wF (fun a' w' _ hh=>xZ hs p _ _ _ hev hp hh) h
 | .e2 i j p r,l,a,w,hev,hp,h=>by
  simp only [dB,Bool.and_eq_true,beq_iff_eq] at hp
  obtain ⟨⟨⟨⟨hr,hk⟩,hk'⟩,hp⟩,hp'⟩:=hp
  simp only [Plan.even,Bool.and_eq_true,beq_iff_eq] at hev
  simp only [Plan.len,y3p]
  refine ⟨fun h0=>(by rw [h0] at hr;cases hr),fun x hx =>?_⟩
  rw [hr] at hx
  rcases List.mem_cons.1 hx with rfl | hx
  ·exact wF (fun a' w' _ hh=>xZ hs p _ _ _ hev.1.1 hp hh) h.1
  ·rw [List.mem_singleton] at hx
   subst hx
   exact wF (fun a' w' _ hh=>by have:=xZ hs r _ _ _ hev.1.2 hp' hh;rw [← hev.2] at this;exact this) h.2
def z2u (ops:Array Oper) (kd:List Nat) (p:Plan):Bool:=Region.noSelect ops&&p.even&&p.len==ops.size&&dB .any ops kd p (Array.replicate ops.size false)
theorem y2x {id:Nat} {l:List Oper} {Q:Exit→Act→World→Prop} {a:Act} {w:World} (kd:List Nat) (p:Plan) (B:World→Prop) (Qp:List PanicEntry→World→Prop)
  (hm:P.follows .mixedOrders=true) (hB:z2u l.toArray kd p=true) (hp:∀c a w,a.defers=D→Qp c w→Q (.panic c) a w) (hd:a.defers=D) (hw:B { w with drawn:=w.drawn+1 })
  (h:zW P .any l.toArray B kd Qp (Q .normal) p a { w with drawn:=w.drawn+1 }):(Code.region id l.toArray true).wp P Q a w:=by
 simp only [z2u,Bool.and_eq_true,beq_iff_eq] at hB
 obtain ⟨⟨⟨hs,hev⟩,hl⟩,hok⟩:=hB
 refine (wpIn_wide (n:=3)).1 (wpIn_region_any hm (nJ (r:=none) (Inv:=fun a=>a.defers=D) (kd:=kd) (B:=B) (Qp:=Qp) (Q:=Q .normal) (fun h=>absurd rfl h) (fun i o a v _ he=>by cases ho:o.dst <;> exact he) (fun _ _ h=>h) (fun c a w he h=>hp c a w he h) _ _ _ _ hd (fun _=>hw) ?_))
 have:=xZ hs p _ _ _ hev hok h
 rw [hl] at this
 exact this
end
end Go.Sw

namespace Go.Sw
variable {P:Program} {n:Nat} {E:List (Nat×Value)} {D:List Deferred} {a:Act} {Φ Ψ:Fz} {K:List Res} {w:World}
variable {dst:Option Tmp} {ty:TypeId} {pos:String} {aft:Array Edge} {g:Option (Nat×Bool)}
def Ok (P:Program) (a:Act) (op:Op) (ty:TypeId) (w:World) (v:Value):Prop :=
 ∀(dst:Option Tmp) (pos:String) (aft:Array Edge) (g:Option (Nat×Bool)),(execOp a.eval ⟨dst,op,ty,pos,aft,g⟩).run P w=.ok (.value v) w
abbrev Scalar (P:Program) (t:TypeId):Prop:=∀w,(isAgg t).run P w=.ok false w
abbrev AggT (P:Program) (t:TypeId):Prop:=∀w,(isAgg t).run P w=.ok true w
abbrev Under (P:Program) (t:TypeId) (d:TypeDesc):Prop:=∀w,(underlying t).run P w=.ok d w
abbrev SizeT (P:Program) (t:TypeId) (k:Nat):Prop:=∀w,(sizeOf t).run P w=.ok k w
abbrev ZeroT (P:Program) (t:TypeId) (v:Value):Prop:=∀w,(zeroValue t).run P w=.ok v w
theorem Ok.cast {op:Op} {v v':Value} (h:Ok P a op ty w v) (e:v=v'):Ok P a op ty w v':=e▸h
theorem qQ {x:Operand} {v:Value} (he:EnvR n E D a) (hx:ev E x=some v):Ok P a (.move x) ty w v:=fun _ _ _ _=>by
 simp only [execOp,he.ev hx];rfl
theorem vJ {x:Operand} {v:Value} (he:EnvR n E D a) (hx:ev E x=some v):Ok P a (.assign x) ty w v:=fun _ _ _ _=>by
 simp only [execOp,he.ev hx];rfl
theorem q7x {c x y:Operand} {v:Value} {b:Bool} (he:EnvR n E D a) (hc:ev E c=some (.bool b)) (hx:ev E (if b then x else y)=some v):Ok P a (.pick c x y) ty w v:=fun _ _ _ _=>by
 cases b with
 | true=>simp only [execOp,he.ev hc,he.ev (show ev E x=some v from hx)];rfl
 | false=>simp only [execOp,he.ev hc,he.ev (show ev E y=some v from hx)];rfl
theorem aO {o:BinOp} {t t':TypeId} {x y:Operand} {vx vy v:Value} (he:EnvR n E D a) (hx:ev E x=some vx) (hy:ev E y=some vy)
  (hg:(eqGuard o t x y vx vy).run P w=.ok () w) (hb:(binOp o t vx vy).run P w=.ok v w):Ok P a (.binOp o t x y t') ty w v:=fun _ _ _ _=>by
 simp only [execOp,he.ev hx,he.ev hy]
 simp [Sem.run_bind,hg,hb,Result.andThen]
theorem uB {o:BinOp} {t t':TypeId} {x y:Operand} {k:IntKind} {i j:Int} {v:Value} (he:EnvR n E D a) (hx:ev E x=some (.int k i)) (hy:ev E y=some (.int k j))
  (hb:(binOp o t (.int k i) (.int k j)).run P w=.ok v w):Ok P a (.binOp o t x y t') ty w v :=
 aO he hx hy (by cases o <;> rfl) hb
theorem y6s {t t':TypeId} {x y:Operand} {k:IntKind} {i j:Int} (z:Int) (he:EnvR n E D a) (hx:ev E x=some (.int k i)) (hy:ev E y=some (.int k j))
  (hz:k.wrap (i+j)=z):Ok P a (.binOp .add t x y t') ty w (.int k z) :=
 uB he hx hy (by subst hz;simp [binOp,Op.intArith])
theorem yX {i:Int} (h:-9223372036854775808≤i∧i≤9223372036854775807):IntKind.i64.wrap i=i:=by
 simp only [IntKind.wrap,IntKind.signed,IntKind.bits]
 simp
 omega
theorem pM {t t':TypeId} {x y:Operand} {i j:Nat} (he:EnvR n E D a) (hx:ev E x=some (.int .i64 (i:Int))) (hy:ev E y=some (.int .i64 (j:Int)))
  (hz:i+j≤9223372036854775807):Ok P a (.binOp .add t x y t') ty w (.int .i64 ((i+j:Nat):Int)) :=
 y6s _ he hx hy (by rw [yX (by omega)];omega)
theorem pY {t t':TypeId} {x y:Operand} {k:IntKind} {i j:Int} (z:Int) (he:EnvR n E D a) (hx:ev E x=some (.int k i)) (hy:ev E y=some (.int k j))
  (hz:k.wrap (i - j)=z):Ok P a (.binOp .sub t x y t') ty w (.int k z) :=
 uB he hx hy (by subst hz;simp [binOp,Op.intArith])
theorem y_mul {t t':TypeId} {x y:Operand} {k:IntKind} {i j:Int} (z:Int) (he:EnvR n E D a) (hx:ev E x=some (.int k i)) (hy:ev E y=some (.int k j))
  (hz:k.wrap (i * j)=z):Ok P a (.binOp .mul t x y t') ty w (.int k z) :=
 uB he hx hy (by subst hz;simp [binOp,Op.intArith])
theorem y_quo {t t':TypeId} {x y:Operand} {k:IntKind} {i j:Int} (z:Int) (he:EnvR n E D a) (hx:ev E x=some (.int k i)) (hy:ev E y=some (.int k j))
  (h0:j≠0) (hz:k.wrap (i.tdiv j)=z):Ok P a (.binOp .quo t x y t') ty w (.int k z) :=
 uB he hx hy (by subst hz;simp [binOp,Op.intDiv,h0])
theorem y_rem {t t':TypeId} {x y:Operand} {k:IntKind} {i j:Int} (z:Int) (he:EnvR n E D a) (hx:ev E x=some (.int k i)) (hy:ev E y=some (.int k j))
  (h0:j≠0) (hz:i.tmod j=z):Ok P a (.binOp .rem t x y t') ty w (.int k z) :=
 uB he hx hy (by subst hz;simp [binOp,Op.intDiv,h0])
theorem wL {t t':TypeId} {x y:Operand} {k:IntKind} {i j:Int} (b:Bool) (he:EnvR n E D a) (hx:ev E x=some (.int k i)) (hy:ev E y=some (.int k j))
  (hb:decide (i=j)=b):Ok P a (.binOp .eql t x y t') ty w (.bool b) :=
 uB he hx hy (by subst hb;simp [binOp,Op.intCmp];rfl)
theorem nL {t t':TypeId} {x y:Operand} {k:IntKind} {i j:Int} (b:Bool) (he:EnvR n E D a) (hx:ev E x=some (.int k i)) (hy:ev E y=some (.int k j))
  (hb:(!decide (i=j))=b):Ok P a (.binOp .neq t x y t') ty w (.bool b) :=
 uB he hx hy (by subst hb;simp [binOp,Op.intCmp];rfl)
theorem q3s {t t':TypeId} {x y:Operand} {k:IntKind} {i j:Int} (b:Bool) (he:EnvR n E D a) (hx:ev E x=some (.int k i)) (hy:ev E y=some (.int k j))
  (hb:decide (i < j)=b):Ok P a (.binOp .lss t x y t') ty w (.bool b) :=
 uB he hx hy (by subst hb;simp [binOp,Op.intCmp])
theorem y6u {t t':TypeId} {x y:Operand} {k:IntKind} {i j:Int} (b:Bool) (he:EnvR n E D a) (hx:ev E x=some (.int k i)) (hy:ev E y=some (.int k j))
  (hb:decide (i≤j)=b):Ok P a (.binOp .leq t x y t') ty w (.bool b) :=
 uB he hx hy (by subst hb;simp [binOp,Op.intCmp])
theorem y6t {t t':TypeId} {x y:Operand} {k:IntKind} {i j:Int} (b:Bool) (he:EnvR n E D a) (hx:ev E x=some (.int k i)) (hy:ev E y=some (.int k j))
  (hb:decide (j < i)=b):Ok P a (.binOp .gtr t x y t') ty w (.bool b) :=
 uB he hx hy (by subst hb;simp [binOp,Op.intCmp])
theorem q3o {t t':TypeId} {x y:Operand} {k:IntKind} {i j:Int} (b:Bool) (he:EnvR n E D a) (hx:ev E x=some (.int k i)) (hy:ev E y=some (.int k j))
  (hb:decide (j≤i)=b):Ok P a (.binOp .geq t x y t') ty w (.bool b) :=
 uB he hx hy (by subst hb;simp [binOp,Op.intCmp])
theorem sD (s t:ByteArray):(s.toList==t.toList)=decide (s=t):=by
 rw [Bool.eq_iff_iff]
 simp only [beq_iff_eq,decide_eq_true_eq,ByteArray.toList_eq]
 constructor
 ·intro h
  cases s;cases t;simp_all
 ·rintro rfl;rfl
theorem q7y {t t':TypeId} {x y:Operand} {s u:ByteArray} (b:Bool) (he:EnvR n E D a) (hx:ev E x=some (.string s)) (hy:ev E y=some (.string u))
  (hb:decide (s=u)=b):Ok P a (.binOp .eql t x y t') ty w (.bool b) :=
 aO he hx hy rfl (by subst hb;simp [binOp,Op.stringOp,sD])
theorem q7z {t t':TypeId} {x y:Operand} {s u:ByteArray} (b:Bool) (he:EnvR n E D a) (hx:ev E x=some (.string s)) (hy:ev E y=some (.string u))
  (hb:(!decide (s=u))=b):Ok P a (.binOp .neq t x y t') ty w (.bool b) :=
 aO he hx hy rfl (by subst hb;simp [binOp,Op.stringOp,sD])
theorem y_lssD {t t':TypeId} {x y:Operand} {k:IntKind} {i j:Int} (he:EnvR n E D a) (hx:ev E x=some (.int k i)) (hy:ev E y=some (.int k j)):Ok P a (.binOp .lss t x y t') ty w (.bool (decide (i < j))):=q3s _ he hx hy rfl
theorem sN {t t':TypeId} {x y:Operand} {k:IntKind} {i j:Int} (he:EnvR n E D a) (hx:ev E x=some (.int k i)) (hy:ev E y=some (.int k j)):Ok P a (.binOp .geq t x y t') ty w (.bool (decide (j≤i))):=q3o _ he hx hy rfl
theorem nK {t t':TypeId} {x y:Operand} {k:IntKind} {i j:Int} (he:EnvR n E D a) (hx:ev E x=some (.int k i)) (hy:ev E y=some (.int k j)):Ok P a (.binOp .eql t x y t') ty w (.bool (decide (i=j))):=wL _ he hx hy rfl
theorem q7v {t t':TypeId} {x y:Operand} {k:IntKind} {i j:Nat} (he:EnvR n E D a) (hx:ev E x=some (.int k (i:Int))) (hy:ev E y=some (.int k (j:Int))):Ok P a (.binOp .leq t x y t') ty w (.bool (decide (i≤j))):=y6u _ he hx hy (decide_eq_decide.2 Int.ofNat_le)
theorem y_gtrN {t t':TypeId} {x y:Operand} {k:IntKind} {i j:Nat} (he:EnvR n E D a) (hx:ev E x=some (.int k (i:Int))) (hy:ev E y=some (.int k (j:Int))):Ok P a (.binOp .gtr t x y t') ty w (.bool (decide (j < i))):=y6t _ he hx hy (decide_eq_decide.2 Int.ofNat_lt)
theorem y9c {t t':TypeId} {x y:Operand} {k:IntKind} {i j:Nat} (he:EnvR n E D a) (hx:ev E x=some (.int k (i:Int))) (hy:ev E y=some (.int k (j:Int))):Ok P a (.binOp .eql t x y t') ty w (.bool (decide (i=j))):=wL _ he hx hy (decide_eq_decide.2 (by omega))
theorem z8c {t t':TypeId} {x y:Operand} {s u:ByteArray} (he:EnvR n E D a) (hx:ev E x=some (.string s)) (hy:ev E y=some (.string u)):Ok P a (.binOp .eql t x y t') ty w (.bool (decide (s=u))):=q7y _ he hx hy rfl
theorem y_sneqD {t t':TypeId} {x y:Operand} {s u:ByteArray} (he:EnvR n E D a) (hx:ev E x=some (.string s)) (hy:ev E y=some (.string u)):Ok P a (.binOp .neq t x y t') ty w (.bool (!decide (s=u))):=q7z _ he hx hy rfl
theorem y3a {t t':TypeId} {x y:Operand} {s u:ByteArray} (he:EnvR n E D a) (hx:ev E x=some (.string s)) (hy:ev E y=some (.string u))
  (hb:s.size+u.size≤9223372036854775807):Ok P a (.binOp .add t x y t') ty w (.string (s++u)) :=
 aO he hx hy rfl (by
  have:¬(((s.size+u.size:Nat):Int) > IntKind.i64.max):=by simp [IntKind.max,IntKind.signed,IntKind.bits];omega
  simp only [binOp,Op.stringOp,if_neg this];rfl)
theorem uC {x:Operand} {t:TypeId} {b:Bool} (he:EnvR n E D a) (hx:ev E x=some (.bool b)):Ok P a (.unOp .not t x) ty w (.bool (!b)):=fun _ _ _ _=>by
 simp only [execOp,he.ev hx];rfl
theorem nU {x:Operand} {i:Nat} {vs:List Value} {v:Value} (he:EnvR n E D a) (hx:ev E x=some (.tuple vs.toArray)) (hi:vs[i]? = some v):Ok P a (.extract x i) ty w v:=fun _ _ _ _=>by
 simp only [execOp,he.ev hx];simp [Instr.extract,hi,Sem.run_bind,Result.andThen]
theorem z1k {x:Operand} {p:Addr} (he:EnvR n E D a) (hx:ev E x=some (.pointer (some p))):Ok P a (.nilCheck x) ty w (.pointer (some p)):=fun _ _ _ _=>by
 simp only [execOp,he.ev hx];rfl
theorem sP {fn:Fn} {fs cs:Array Operand} {vfs vcs:List Value} (he:EnvR n E D a) (hf:evs E fs.toList=some vfs) (hc:evs E cs.toList=some vcs) :
  Ok P a (.makeFunc fn fs cs) ty w (.func fn vfs.toArray vcs.toArray):=fun _ _ _ _=>by
 simp only [execOp,he.evsA hf,he.evsA hc];rfl
theorem qD {t:TypeId} {x:Operand} {v:Value} {d:TypeDesc} (he:EnvR n E D a) (hx:ev E x=some v) (hu:Under P t d) (hd:∀ms,d≠.interface ms) :
  Ok P a (.makeInterface t x) ty w (.iface t v):=fun _ _ _ _=>by
 simp only [execOp,he.ev hx]
 have:=hu w
 simp only [Instr.makeInterface,Sem.run_bind,this,Result.andThen]
 cases d <;> first | rfl | exact absurd rfl (hd _)
def nth:List Value→Nat→Option Value
 | [],_=>none
 | v::_,0=>some v
 | _::l,i+1=>nth l i
def z2f (l:List Value):Nat→List Value
 | 0=>l
 | i+1=>(z2f l i).tail
def z2n:List Value→Nat→List Value
 | _,0=>[]
 | [],_+1=>[]
 | x::l,i+1=>x::z2n l i
theorem z0z:∀(l:List Value) (i:Nat),nth l i=l[i]?
 | [],_=>rfl
 | _::_,0=>rfl
 | _::l,i+1=>by simp only [nth,z0z l i,List.getElem?_cons_succ]
theorem z2g (l:List Value):∀(i:Nat),z2f l i=l.drop i
 | 0=>rfl
 | i+1=>by simp [z2f,z2g l i]
theorem z2o:∀(l:List Value) (i:Nat),z2n l i=l.take i
 | l,0=>by cases l <;> rfl
 | [],_+1=>rfl
 | _::l,i+1=>by simp only [z2n,z2o l i,List.take_succ_cons]
def z7p:List Value→List Value→List Value
 | [],cs=>cs
 | v::vs,[]=>v::vs
 | v::vs,_::cs=>v::z7p vs cs
theorem q9i:∀(vs cs:List Value),z7p vs cs=vs++cs.drop vs.length
 | [],cs=>by simp [z7p]
 | v::vs,[]=>by simp [z7p]
 | v::vs,_::cs=>by simp [z7p,q9i vs cs]
def pB:List Value→Nat→List Value→List Value
 | cs,0,vs=>z7p vs cs
 | [],_+1,vs=>vs
 | c::cs,i+1,vs=>c::pB cs i vs
theorem oB:∀(cs:List Value) (off:Nat) (vs:List Value),pB cs off vs=cs.take off++(vs++cs.drop (off+vs.length))
 | cs,0,vs=>by cases cs <;> simp [pB,q9i]
 | [],_+1,vs=>by simp [pB]
 | c::cs,i+1,vs=>by
  simp only [pB,oB cs i vs,List.take_succ_cons,List.cons_append]
  rw [show i+1+vs.length=(i+vs.length)+1 by omega,List.drop_succ_cons]
def ob (cs:List Value) (t:TypeId):Obj:=.cells cs.toArray t (0,0)
theorem Sees.cell (hm:Sees Φ K w) {i b:Nat} {cs:List Value} {t:TypeId} (hk:qJ K i=some (.blk b (ob cs t))) (j:Nat):w.cell? ⟨b,j,none⟩=nth cs j:=by
 have:w.heap[b]? = some (ob cs t):=hm.own _ (qH hk)
 simp [World.cell?,this,ob,z0z]
theorem Sees.at (hm:Sees Φ K w) {p:Addr} {cs:List Value} (hp:At Φ p cs):∀j v,cs[j]? = some v→w.cell? (p.add j)=some v:=by
 intro j v hj
 obtain ⟨arr,T,fr,h1,h2⟩:=hp.ex
 have hs:=hp.spot
 have h4:=hm.fz _ _ h1
 have h3:=h2 j v hj
 cases p with
 | mk b o s =>
  simp only at hs h3 h4
  subst hs
  have e:(⟨b,o,none⟩:Addr).add j=⟨b,o+j,none⟩:=by
   unfold Addr.add;split
   ·subst_vars;rfl
   ·rfl
  rw [e]
  simp [World.cell?,h4,h3]
theorem yS (i:Nat) {x:Operand} {T:TypeId} {b off:Nat} {cs:List Value} {t:TypeId} {v:Value} (he:EnvR n E D a) (hm:Sees Φ K w)
  (hx:ev E x=some (.pointer (some ⟨b,off,none⟩))) (hk:qJ K i=some (.blk b (ob cs t))) (hv:nth cs off=some v) (hT:Scalar P T):Ok P a (.load T x) ty w v:=fun _ _ _ _=>by
 have h1:=hm.cell hk off
 rw [hv] at h1
 simp only [execOp,he.ev hx]
 simp [Instr.loadAt,Instr.sureAddr,loadVar,Sem.run_bind,hT w,Result.andThen,load,Sem.run,h1]
theorem yU (i:Nat) {x:Operand} {T:TypeId} {b off k:Nat} {cs vs:List Value} {t:TypeId} (he:EnvR n E D a) (hm:Sees Φ K w)
  (hx:ev E x=some (.pointer (some ⟨b,off,none⟩))) (hk:qJ K i=some (.blk b (ob cs t))) (hT:AggT P T) (hS:SizeT P T k) (hv:z2n (z2f cs off) k=vs) (hl:vs.length=k) :
  Ok P a (.load T x) ty w (.agg vs.toArray):=fun _ _ _ _=>by
 have hc:∀j v,vs[j]? = some v→w.cell? ((⟨b,off,none⟩:Addr).add j)=some v:=fun j v hj=>by
  have h1:=hm.cell hk (off+j)
  rw [z2o,z2g] at hv
  have hjk:j < k:=by rw [← hl];exact (List.getElem?_eq_some_iff.1 hj).1
  rw [← hv,List.getElem?_take_of_lt hjk,List.getElem?_drop] at hj
  rw [z0z,hj] at h1
  unfold Addr.add;split
  ·subst_vars;simpa using h1
  ·exact h1
 have h2:=run_loadCells_list (P:=P) (w:=w) ⟨b,off,none⟩ vs hc
 rw [hl] at h2
 simp only [execOp,he.ev hx]
 simp [Instr.loadAt,Instr.sureAddr,loadVar,Sem.run_bind,hT w,hS w,Result.andThen,h2]
theorem y6v {x:Operand} {T:TypeId} {p:Addr} {cs:List Value} {v:Value} (j:Nat) (he:EnvR n E D a) (hm:Sees Φ K w)
  (hx:ev E x=some (.pointer (some (p.add j)))) (hp:At Φ p cs) (hv:nth cs j=some v) (hT:Scalar P T):Ok P a (.load T x) ty w v:=fun _ _ _ _=>by
 rw [z0z] at hv
 have h1:=hm.at hp j v hv
 simp only [execOp,he.ev hx]
 simp [Instr.loadAt,Instr.sureAddr,loadVar,Sem.run_bind,hT w,Result.andThen,load,Sem.run,h1]
theorem add_zero (p:Addr):p.add 0=p:=by simp [Addr.add]
theorem add_add (p:Addr) (i j:Nat) (hp:p.spot=none):(p.add i).add j=p.add (i+j):=by
 cases p with
 | mk b o s =>
  simp only at hp;subst hp
  unfold Addr.add
  by_cases hi:i=0 <;> by_cases hj:j=0 <;> simp_all <;> omega
theorem q7w {x:Operand} {T:TypeId} {p:Addr} {cs:List Value} {v:Value} (he:EnvR n E D a) (hm:Sees Φ K w)
  (hx:ev E x=some (.pointer (some p))) (hp:At Φ p cs) (hv:nth cs 0=some v) (hT:Scalar P T):Ok P a (.load T x) ty w v :=
 y6v 0 he hm (by rw [add_zero];exact hx) hp hv hT
theorem sO {x:Operand} {T:TypeId} {p:Addr} {k:Nat} {cs vs:List Value} (j:Nat) (he:EnvR n E D a) (hm:Sees Φ K w)
  (hx:ev E x=some (.pointer (some (p.add j)))) (hp:At Φ p cs) (hT:AggT P T) (hS:SizeT P T k) (hv:z2n (z2f cs j) k=vs) (hl:vs.length=k) :
  Ok P a (.load T x) ty w (.agg vs.toArray):=fun _ _ _ _=>by
 have hc:∀i v,vs[i]? = some v→w.cell? ((p.add j).add i)=some v:=fun i v hi=>by
  rw [z2o,z2g] at hv
  have hjk:i < k:=by rw [← hl];exact (List.getElem?_eq_some_iff.1 hi).1
  rw [← hv,List.getElem?_take_of_lt hjk,List.getElem?_drop] at hi
  rw [add_add p j i hp.spot]
  exact hm.at hp _ v hi
 have h2:=run_loadCells_list (P:=P) (w:=w) (p.add j) vs hc
 rw [hl] at h2
 simp only [execOp,he.ev hx]
 simp [Instr.loadAt,Instr.sureAddr,loadVar,Sem.run_bind,hT w,hS w,Result.andThen,h2]
theorem q3r {x:Operand} {T:TypeId} {p:Addr} {k:Nat} {cs:List Value} (he:EnvR n E D a) (hm:Sees Φ K w)
  (hx:ev E x=some (.pointer (some p))) (hp:At Φ p cs) (hT:AggT P T) (hS:SizeT P T k) (hl:cs.length=k) :
  Ok P a (.load T x) ty w (.agg cs.toArray) :=
 sO 0 he hm (by rw [add_zero];exact hx) hp hT hS (by rw [z2o,z2g,← hl];simp) hl
def zK (P:Program) (s:TypeId) (f off:Nat):Prop:=∀(p:Addr) (w:World),(Instr.fieldAt s (.pointer (some p)) f).run P w=.ok (.pointer (some (p.add off))) w
theorem zD {s:TypeId} {fs:Array Field} {f off k:Nat} {fd:Field} (hu:Under P s (.struct fs)) (hf:fs[f]? = some fd) (hs:SizeT P fd.type k) (hk:k≠0) (ho:fd.offset=off):zK P s f off:=fun p w=>by
 subst ho
 simp [Instr.fieldAt,hu w,hf,Instr.sureAddr,fieldPlace,hs w,hk]
theorem uA {x:Operand} {s:TypeId} {f off:Nat} {p:Addr} (he:EnvR n E D a) (hx:ev E x=some (.pointer (some p))) (hf:zK P s f off) :
  Ok P a (.fieldAddr s x f) ty w (.pointer (some (p.add off))):=fun _ _ _ _=>by
 simp only [execOp,he.ev hx]
 simp [Sem.run_bind,hf p w,Result.andThen]
theorem qP {x:Operand} {s:TypeId} {f off b o z:Nat} (he:EnvR n E D a) (hx:ev E x=some (.pointer (some ⟨b,o,none⟩))) (hf:zK P s f off) (hz:o+off=z) :
  Ok P a (.fieldAddr s x f) ty w (.pointer (some ⟨b,z,none⟩)):=by
 have h:=uA (P:=P) (ty:=ty) (w:=w) he hx hf
 have e:(⟨b,o,none⟩:Addr).add off=⟨b,z,none⟩:=by
  subst hz
  unfold Addr.add;split
  ·subst_vars;rfl
  ·rfl
 rwa [e] at h
theorem y2z {x:Operand} {s:TypeId} {f off j z:Nat} {p:Addr} {cs:List Value} (he:EnvR n E D a) (hx:ev E x=some (.pointer (some (p.add j)))) (hp:At Φ p cs) (hf:zK P s f off) (hz:j+off=z) :
  Ok P a (.fieldAddr s x f) ty w (.pointer (some (p.add z))):=by
 have h:=uA (P:=P) (ty:=ty) (w:=w) he hx hf
 rw [add_add p j off hp.spot,hz] at h
 exact h
theorem vU (i:Nat) {x ix:Operand} {t e:TypeId} {kk:IntKind} {p:Addr} {len cap k:Nat} (he:EnvR n E D a) (hx:ev E x=some (.slice (some p) len cap))
  (hi:ev E ix=some (.int kk (i:Int))) (ht:Under P t (.slice e)) (hs:SizeT P e k) (hb:i < len) :
  Ok P a (.indexAddr t x ix) ty w (.pointer (some (p.add (i * k)))):=fun _ _ _ _=>by
 simp only [execOp,he.ev hx,he.ev hi]
 simp [Instr.indexAt,asIntOf,Sem.run_bind,ht w,hs w,Result.andThen,hb]
theorem q9x {x:Operand} {t:TypeId} {fs:Array Field} {i:Nat} {fd:Field} {cs:List Value} {v:Value} (ht:Under P t (.struct fs)) (hf:fs[i]? = some fd) (hT:Scalar P fd.type)
  (he:EnvR n E D a) (hx:ev E x=some (.agg cs.toArray)) (hv:nth cs fd.offset=some v):Ok P a (.field t x i) ty w v:=fun _ _ _ _=>by
 rw [z0z] at hv
 simp only [execOp,he.ev hx]
 have hv':cs.toArray[fd.offset]? = some v:=by simpa using hv
 simp [Instr.field,Sem.run_bind,ht w,hf,asAgg,part,hT w,Result.andThen,hv]
theorem kR (i:Nat) (c:UInt8) {x ix:Operand} {t:TypeId} {kk:IntKind} {s:ByteArray} (he:EnvR n E D a) (hx:ev E x=some (.string s))
  (hi:ev E ix=some (.int kk (i:Int))) (ht:Under P t .string) (hc:s[i]? = some c):Ok P a (.index t x ix) ty w (.int .u8 c.toNat):=fun _ _ _ _=>by
 simp only [execOp,he.ev hx,he.ev hi]
 simp [Instr.index,asIntOf,Sem.run_bind,ht w,Result.andThen,hc]
theorem z6m {x:Operand} {t e:TypeId} {p:Option Addr} {len cap:Nat} (he:EnvR n E D a) (hx:ev E x=some (.slice p len cap)) (ht:Under P t (.slice e)) :
  Ok P a (.call { callee:=.builtin .len,args:=#[x],argTypes:=#[t] }) ty w (.int .i64 (len:Int)):=fun _ _ _ _=>by
 simp only [execOp,resolve]
 simp [Sem.run_bind,Result.andThen,invoke,builtin,he.ev hx,Builtin.len_,ht w,goInt]
theorem j4g {x:Operand} {t:TypeId} {s:ByteArray} (he:EnvR n E D a) (hx:ev E x=some (.string s)) (ht:Under P t .string) :
  Ok P a (.call { callee:=.builtin .len,args:=#[x],argTypes:=#[t] }) ty w (.int .i64 (s.size:Int)):=fun _ _ _ _=>by
 simp only [execOp,resolve]
 simp [Sem.run_bind,Result.andThen,invoke,builtin,he.ev hx,Builtin.len_,ht w,goInt]
theorem xO {x:Operand} {t:TypeId} {lo hi:Option Operand} {s:ByteArray} (l h:Nat) (he:EnvR n E D a) (hx:ev E x=some (.string s)) (ht:Under P t .string)
  (hl:match lo with | none=>l=0 | some o=>∃k,ev E o=some (.int k (l:Int))) (hh:match hi with | none=>h=s.size | some o=>∃k,ev E o=some (.int k (h:Int))) (h1:l≤h) (h2:h≤s.size) :
  Ok P a (.slice t x lo hi none) ty w (.string (s.extract l h)):=fun _ _ _ _=>by
 simp only [execOp,he.ev hx,Instr.sliceAt]
 cases lo <;> cases hi <;> simp only at hl hh
 ·subst hl;subst hh
  simp [Sem.run_bind,ht w,Instr.slice,Instr.sliceBounds]
 ·obtain ⟨k,hh⟩:=hh;subst hl
  simp [Sem.run_bind,ht w,Instr.slice,Instr.sliceBounds,he.ev hh,Instr.sliceBound,asIntOf,h2]
 ·obtain ⟨k,hl⟩:=hl;subst hh
  simp [Sem.run_bind,ht w,Instr.slice,Instr.sliceBounds,he.ev hl,Instr.sliceBound,asIntOf,h1]
 ·obtain ⟨k,hl⟩:=hl;obtain ⟨k',hh⟩:=hh
  simp [Sem.run_bind,ht w,Instr.slice,Instr.sliceBounds,he.ev hl,he.ev hh,Instr.sliceBound,asIntOf,h1,h2]
variable {Kn:Value→World→Prop} {Qp:List PanicEntry→World→Prop} {op:Op} {v:Value} {d:Nat}
theorem vN (ho:Ok P a op ty w v) (k:Kn v w):Oper.eff P ⟨dst,op,ty,pos,aft,g⟩ a w Kn Qp:=by
 unfold Oper.eff;rw [ho];exact k
theorem pR {w:World} {o:Obj} {b:Nat} (hb:b < w.heap.size):({ w with heap:=w.heap.push o }:World).heap[b]? = w.heap[b]? := by
 simp only;rw [Array.getElem?_push_lt hb,← Array.getElem?_eq_getElem hb]
theorem Mem.push (hm:Mem Φ K w) (o:Obj):Mem Φ (.blk w.heap.size o::K) { w with heap:=w.heap.push o } :=
 hm.more rfl rfl (fun b hb=>pR hb) (by simp [Res.sat]) (by simp [Res.foot])
theorem yG {T:TypeId} {z:Value} {cs:List Value} (hm:Mem Φ K w) (hz:ZeroT P T z) (hc:z.cells.toList=cs)
  (k:∀b w',Mem Φ (.blk b (ob cs T)::K) w'→Kn (.pointer (some ⟨b,0,none⟩)) w'):Oper.eff P ⟨dst,.alloc T,ty,pos,aft,g⟩ a w Kn Qp:=by
 unfold Oper.eff
 have:(execOp a.eval ⟨dst,.alloc T,ty,pos,aft,g⟩).run P w=.ok (.value (.pointer (some ⟨w.heap.size,0,none⟩))) { w with heap:=w.heap.push (ob cs T) }:=by
  subst hc
  simp [execOp,Instr.alloc,Sem.run_bind,hz w,newVar,newRow,ob]
 rw [this]
 exact k _ _ (hm.push _)
theorem qK {T:TypeId} {x:Operand} {v:Value} {cs:List Value} (he:EnvR n E D a) (hm:Mem Φ K w) (hx:ev E x=some v) (hc:v.cells.toList=cs)
  (k:∀b w',Mem Φ (.blk b (ob cs T)::K) w'→Kn (.pointer (some ⟨b,0,none⟩)) w'):Oper.eff P ⟨dst,.box T x,ty,pos,aft,g⟩ a w Kn Qp:=by
 unfold Oper.eff
 have:(execOp a.eval ⟨dst,.box T x,ty,pos,aft,g⟩).run P w=.ok (.value (.pointer (some ⟨w.heap.size,0,none⟩))) { w with heap:=w.heap.push (ob cs T) }:=by
  subst hc
  simp [execOp,Instr.box,Sem.run_bind,newVar,newRow,ob,he.ev hx]
 rw [this]
 exact k _ _ (hm.push _)
theorem zP (i:Nat) {x y:Operand} {T T0:TypeId} {b off k:Nat} {v:Value} {cs vs:List Value} (he:EnvR n E D a) (hm:Mem Φ K w)
  (hx:ev E x=some (.pointer (some ⟨b,off,none⟩))) (hy:ev E y=some v) (hk:qJ K i=some (.blk b (ob cs T0))) (hc:v.cells.toList=vs) (hS:SizeT P T k) (hl:vs.length=k)
  (h1:vs.all Value.oneCell'=true) (hf:Nat.ble (off+vs.length) cs.length=true)
  (kk:∀w',Mem Φ (wK K i (.blk b (ob (pB cs off vs) T0))) w'→Kn undef w'):Oper.eff P ⟨dst,.store T x y,ty,pos,aft,g⟩ a w Kn Qp:=by
 have hb:w.heap[b]? = some (.cells cs.toArray T0 (0,0)):=hm.own _ (qH hk)
 have hf':off+vs.length≤cs.length:=by simpa using hf
 have hr:=run_storeCells_at P b off T0 vs 0 cs.toArray w hb (by simpa using hf') (fun v hv=>List.all_eq_true.1 h1 v hv)
 have hsz:v.cells.size=k:=by rw [← hl,← hc];simp
 unfold Oper.eff
 have:(execOp a.eval ⟨dst,.store T x y,ty,pos,aft,g⟩).run P w=.ok .skip (w.setRow b (pB cs off vs).toArray):=by
  simp only [execOp,he.ev hx,he.ev hy]
  simp only [Nat.add_zero,List.toList_toArray] at hr
  simp [Instr.storeAt,Instr.sureAddr,storeVar,Sem.run_bind,hS w,hsz,hc,hr,oB]
 rw [this]
 refine kk _ (hm.upd hk rfl rfl (fun c hc hne=>setRow_other w b c _ (fun e=>hne (by simp [Res.foot,e]))) ?_ (.inl rfl))
 exact setRow_heap w b _ _ T0 _ hb
def built (P:Program) (t:TypeId) (parts:List (Nat×Value)) (len:Nat) (cs:List Value) (e:TypeId):Prop :=
 ∀w,(Instr.buildSlice t len parts.toArray).run P w=.ok (.slice (some ⟨w.heap.size,0,none⟩) len len) { w with heap:=w.heap.push (ob cs e) }
def evp (E:List (Nat×Value)):List (Nat×Operand)→Option (List (Nat×Value))
 | []=>some []
 | (i,x)::xs=>match ev E x,evp E xs with
  | some v,some vs=>some ((i,v)::vs)
  | _,_=>none
theorem EnvR.evp (h:EnvR n E D a):∀{xs:List (Nat×Operand)} {vs:List (Nat×Value)},Sw.evp E xs=some vs→xs.map (fun (i,x)=>(i,a.eval x))=vs
 | [],vs,hx=>by simp [Sw.evp] at hx;simp [hx]
 | (i,x)::xs,vs,hx=>by
  simp only [Sw.evp] at hx
  split at hx
  ·rename_i v vs' h1 h2
   simp only [Option.some.injEq] at hx
   subst hx
   simp [h.ev h1,EnvR.evp h h2]
  ·cases hx
theorem EnvR.evpA (h:EnvR n E D a) {xs:Array (Nat×Operand)} {vs:List (Nat×Value)} (hx:Sw.evp E xs.toList=some vs):xs.map (fun (i,x)=>(i,a.eval x))=vs.toArray:=by
 apply Array.ext'
 simp [h.evp hx]
theorem aY {t:TypeId} {ps:Array (Nat×Operand)} {vs:List (Nat×Value)} {cs:List Value} (he:EnvR n E D a) (hp:evp E ps.toList=some vs) (hb:P.built t vs=some cs.toArray) :
  Ok P a (.build t ps) ty w (.agg cs.toArray):=fun _ _ _ _=>by
 simp only [execOp,he.evpA hp]
 simp [Sem.run_bind,run_build w t vs.toArray cs.toArray (by simpa using hb),Result.andThen]
theorem mV {t e:TypeId} {len sz:Nat} {ps:Array (Nat×Operand)} {vs:List (Nat×Value)} {cs:List Value} (he:EnvR n E D a) (hm:Mem Φ K w) (hp:evp E ps.toList=some vs) (hb:built P t vs len cs e)
  (hl:cs.length=len * sz) (hmx:len≤maxLen) (k:∀v w',Mem Φ (.gs v e sz cs::K) w'→(∃p,v=.slice p len len)→Kn v w'):Oper.eff P ⟨dst,.buildSlice t len ps,ty,pos,aft,g⟩ a w Kn Qp:=by
 unfold Oper.eff
 have:(execOp a.eval ⟨dst,.buildSlice t len ps,ty,pos,aft,g⟩).run P w=.ok (.value (.slice (some ⟨w.heap.size,0,none⟩) len len)) { w with heap:=w.heap.push (ob cs e) }:=by
  simp only [execOp,he.evpA hp]
  simp [Sem.run_bind,hb w]
 rw [this]
 refine k _ _ (hm.more rfl rfl (fun b hb=>pR hb) ⟨len,hl,.inr ⟨w.heap.size,len,cs.toArray,rfl,Nat.zero_le _,by simp [ob],Nat.le_refl _,hmx,by simp [hl],by simp [← hl]⟩⟩ (by simp [Res.foot,Value.ownBlock])) ⟨_,rfl⟩
theorem mW {f:FuncId} {xs:Array Operand} {ts:Array TypeId} {vs:List Value} {R:Ending→World→Prop} (he:EnvR n E D a) (hx:evs E xs.toList=some vs)
  (hf:∀args w,(callFunc f args).run P w=.ok (.enter f args) w) (hc:Calls P f vs.toArray w R)
  (k:∀v w',R (.returned v) w'→Kn v w') (kp:∀c w',R (.panicked c) w'→Qp c w') (ko:∀w',R .outgrown w'→False) :
  Oper.eff P ⟨dst,.call { callee:=.value (.func f),args:=xs,argTypes:=ts },ty,pos,aft,g⟩ a w Kn Qp:=by
 unfold Oper.eff
 have:(execOp a.eval ⟨dst,.call { callee:=.value (.func f),args:=xs,argTypes:=ts },ty,pos,aft,g⟩).run P w=.ok (.enter f vs.toArray) w:=by
  simp [execOp,resolve,he.evsA hx,Act.eval,Deferred.ofValue,invoke,hf]
 rw [this]
 exact hc.mono fun e w' hr=>by cases e <;> first | exact k _ _ hr | exact kp _ _ hr | exact ko _ hr
theorem z3z {f:FuncId} {y:Operand} {fs cs:List Value} {xs:Array Operand} {ts:Array TypeId} {vs:List Value} {R:Ending→World→Prop} (he:EnvR n E D a) (hy:ev E y=some (.func (.func f) fs.toArray cs.toArray)) (hx:evs E xs.toList=some vs)
  (hf:∀args w,(callFunc f args).run P w=.ok (.enter f args) w) (hc:Calls P f (fs++vs++cs).toArray w R)
  (k:∀v w',R (.returned v) w'→Kn v w') (kp:∀c w',R (.panicked c) w'→Qp c w') (ko:∀w',R .outgrown w'→False) :
  Oper.eff P ⟨dst,.call { callee:=.value y,args:=xs,argTypes:=ts },ty,pos,aft,g⟩ a w Kn Qp:=by
 unfold Oper.eff
 have:(execOp a.eval ⟨dst,.call { callee:=.value y,args:=xs,argTypes:=ts },ty,pos,aft,g⟩).run P w=.ok (.enter f (fs++vs++cs).toArray) w:=by
  simp only [execOp,resolve,he.evsA hx,he.ev hy]
  simp [Deferred.ofValue,invoke,hf]
 rw [this]
 exact hc.mono fun e w' hr=>by cases e <;> first | exact k _ _ hr | exact kp _ _ hr | exact ko _ hr
theorem vD {x:Operand} {t:TypeId} {v:Value} (he:EnvR n E D a) (hx:ev E x=some (.iface t v)) (hp:(Instr.panic (.iface t v)).run P w=.halt (.panic (.iface t v)) w)
  (kp:Qp [{ v:=.iface t v,recovered:=false }] w):Oper.eff P ⟨dst,.panic x,ty,pos,aft,g⟩ a w Kn Qp:=by
 unfold Oper.eff
 have:(execOp a.eval ⟨dst,.panic x,ty,pos,aft,g⟩).run P w=.halt (.panic (.iface t v)) w:=by
  simp [execOp,he.ev hx,hp]
 rw [this]
 exact kp
section
variable {ops:Array Oper} {rest:List Oper} {Q:Exit→Act→World→Prop}
theorem st {o:Oper} (he:EnvR n E D a) (hd:o.dst=some d) (hlt:Nat.blt d n=true) (hg:o.guard=none)
  (h:Oper.eff P o a w (fun v w'=>∀a,EnvR n ((d,v)::E) D a→wpList P ops Q rest a w') (fun c w'=>∀a,a.defers=D→Q (.panic c) a w')):wpList P ops Q (o::rest) a w:=by
 refine wpList_plain hg fun L hL=>oD (jZ h (fun v w' hv=>hL _ _ ?_) (fun c w' hc=>hc _ he.defs))
 rw [hd];exact hv _ (he.put hlt)
theorem st0 {o:Oper} (he:EnvR n E D a) (hd:o.dst=none) (hg:o.guard=none)
  (h:Oper.eff P o a w (fun _ w'=>∀a,EnvR n E D a→wpList P ops Q rest a w') (fun c w'=>∀a,a.defers=D→Q (.panic c) a w')):wpList P ops Q (o::rest) a w:=by
 refine wpList_plain hg fun L hL=>oD (jZ h (fun v w' hv=>hL _ _ ?_) (fun c w' hc=>hc _ he.defs))
 rw [hd];exact hv _ he.put_none
theorem jG (he:EnvR n E D a) (ho:Ok P a op ty w v) (hd:Nat.blt d n=true) (k:∀a,EnvR n ((d,v)::E) D a→wpList P ops Q rest a w) :
  wpList P ops Q (⟨some d,op,ty,pos,aft,none⟩::rest) a w :=
 st he rfl hd rfl (vN ho k)
theorem q8a (he:EnvR n E D a) {j t:Nat} {b:Bool} (hj:ops[j]?.bind (·.dst)=some t) (hv:get E t=some (.bool b)):yielded ops a.tmps j=some b:=by
 simp [yielded,hj,he.env t _ hv]
theorem mH (he:EnvR n E D a) {o:Oper} {j t:Nat} {b:Bool} (hg:o.guard=some (j,b)) (hj:ops[j]?.bind (·.dst)=some t) (hv:get E t=some (.bool b)):Region.wanted o (yielded ops a.tmps)=true:=by
 simp [Region.wanted,hg,q8a he hj hv]
def y8g:Value→Bool→Bool
 | .bool c,b=>c != b
 | _,_=>true
theorem uW (he:EnvR n E D a) {o:Oper} {j t:Nat} {b:Bool} {v:Value} (hg:o.guard=some (j,b)) (hj:ops[j]?.bind (·.dst)=some t) (hv:get E t=some v) (hb:y8g v b=true):Region.wanted o (yielded ops a.tmps)=false:=by
 have h:yielded ops a.tmps j≠some b:=by
  simp only [yielded,hj,Option.bind_some,he.env t _ hv]
  cases v <;> simp_all [y8g]
 cases hy:yielded ops a.tmps j with
 | none=>simp [Region.wanted,hg,hy]
 | some c=>rw [hy] at h;simp only [ne_eq,Option.some.injEq] at h;simp [Region.wanted,hg,hy,h]
theorem g_no {o:Oper} {j t:Nat} {b:Bool} (he:EnvR n E D a) (hd:o.dst=some d) (hg:o.guard=some (j,b)) (hlt:Nat.blt d n=true) (hj:ops[j]?.bind (·.dst)=some t) (hv:get E t=some v) (hb:y8g v b=true)
  (k:∀a,EnvR n ((d,undef)::E) D a→wpList P ops Q rest a w):wpList P ops Q (o::rest) a w:=by
 unfold wpList
 rw [if_neg (by rw [uW he hg hj hv hb];simp),hd]
 exact k _ (he.put hlt)
theorem g_yes {o:Oper} {j t:Nat} {b:Bool} (he:EnvR n E D a) (hd:o.dst=some d) (hg:o.guard=some (j,b)) (hlt:Nat.blt d n=true) (hj:ops[j]?.bind (·.dst)=some t) (hv:get E t=some (.bool b))
  (h:Oper.eff P o a w (fun v w'=>∀a,EnvR n ((d,v)::E) D a→wpList P ops Q rest a w') (fun c w'=>∀a,a.defers=D→Q (.panic c) a w')):wpList P ops Q (o::rest) a w:=by
 refine wpList_step fun L hL =>?_
 rw [if_pos (mH he hg hj hv)]
 refine oD (jZ h (fun v w' hv=>hL _ _ ?_) (fun c w' hc=>hc _ he.defs))
 rw [hd];exact hv _ (he.put hlt)
theorem g_yes0 {o:Oper} {j t:Nat} {b:Bool} (he:EnvR n E D a) (hd:o.dst=none) (hg:o.guard=some (j,b)) (hj:ops[j]?.bind (·.dst)=some t) (hv:get E t=some (.bool b))
  (h:Oper.eff P o a w (fun _ w'=>∀a,EnvR n E D a→wpList P ops Q rest a w') (fun c w'=>∀a,a.defers=D→Q (.panic c) a w')):wpList P ops Q (o::rest) a w:=by
 refine wpList_step fun L hL =>?_
 rw [if_pos (mH he hg hj hv)]
 refine oD (jZ h (fun v w' hv=>hL _ _ ?_) (fun c w' hc=>hc _ he.defs))
 rw [hd];exact hv _ he.put_none
end
end Go.Sw

namespace Go.Sw
variable {P:Program} {n:Nat} {E:List (Nat×Value)} {D:List Deferred} {a:Act} {Φ Ψ:Fz} {K:List Res} {w:World}
def aP:Nat→List Value→List (Nat×Value)
 | _,[]=>[]
 | i,v::vs=>(i,v)::aP (i+1) vs
theorem nZ:∀(vs:List Value) (i t:Nat) (v:Value),get (aP i vs) t=some v→i≤t∧vs[t - i]? = some v
 | [],_,_,_,h=>by simp [aP,get] at h
 | x::vs,i,t,v,h=>by
  simp only [aP] at h
  rcases kA h with ⟨rfl,rfl⟩ | ⟨hne,h⟩
  ·simp
  ·obtain ⟨h1,h2⟩:=nZ vs (i+1) t v h
   refine ⟨by omega,?_⟩
   have:t - i=(t - (i+1))+1:=by omega
   rw [this];simpa using h2
theorem enter {f:FuncId} {fn:Func} {c:Code} {vs:List Value} {R:Ending→World→Prop} (hf:P.funcs[f]? = some fn) (hb:fn.body=some c) (hn:fn.ntmps=n) (hl:Nat.ble vs.length n=true)
  (k:∀Q:Exit→Act→World→Prop,(∀e a w,bodyPost P fn R e a w→Q e a w)→∀a,EnvR n (aP 0 vs) [] a→c.wp P Q a w):Calls P f vs.toArray w R:=by
 have hl':vs.length≤n:=by simpa using hl
 refine calls_of_wp hf hb (k _ (fun _ _ _ h=>h) _ ⟨by simp [hn];omega,fun t v ht =>?_,rfl⟩)
 obtain ⟨_,h2⟩:=nZ vs 0 t v ht
 simp only [Nat.sub_zero] at h2
 have hlt:t < vs.length:=(List.getElem?_eq_some_iff.1 h2).1
 simp only [List.getElem?_toArray,Array.getElem?_append,List.size_toArray,hlt,↓reduceIte]
 exact h2
theorem ret0 {fn:Func} {R:Ending→World→Prop} (he:EnvR n E [] a) (hr:fn.results=#[]) (h:R (.returned (.tuple #[])) w):bodyPost P fn R .ret a w :=
 ⟨he.defs,.tuple #[],by simp [results,hr],h⟩
theorem ret1 {fn:Func} {R:Ending→World→Prop} {t:Nat} {v:Value} (he:EnvR n E [] a) (hr:fn.results=#[.tmp t]) (hv:get E t=some v) (h:R (.returned v) w):bodyPost P fn R .ret a w :=
 ⟨he.defs,v,by simp [results,hr,Array.getD_eq_getD_getElem?,he.env t v hv],h⟩
theorem ret2 {fn:Func} {R:Ending→World→Prop} {t u:Nat} {v x:Value} (he:EnvR n E [] a) (hr:fn.results=#[.tmp t,.tmp u]) (hv:get E t=some v) (hx:get E u=some x)
  (h:R (.returned (.tuple #[v,x])) w):bodyPost P fn R .ret a w :=
 ⟨he.defs,.tuple #[v,x],by simp [results,hr,Array.getD_eq_getD_getElem?,he.env t v hv,he.env u x hx],h⟩
variable {Q:Exit→Act→World→Prop}
theorem sq {x y:Code} (h:∀L:Act→World→Prop,(∀a w,y.wp P Q a w→L a w)→x.wp P (Exit.then L Q) a w):(Code.seq x y).wp P Q a w:=wp_seq_k h
theorem if_t {c:Operand} {x y:Code} (he:EnvR n E D a) (hc:ev E c=some (.bool true)) (h:x.wp P Q a w):(Code.cond c x y).wp P Q a w:=wp_cond_true (he.ev hc) h
theorem if_f {c:Operand} {x y:Code} (he:EnvR n E D a) (hc:ev E c=some (.bool false)) (h:y.wp P Q a w):(Code.cond c x y).wp P Q a w:=wp_cond_false (he.ev hc) h
theorem loop {c:Code} {σ:Type} (μ:σ→Nat) (I:σ→Act→World→Prop) (s0:σ) (h0:I s0 a w)
  (hb:∀s a w,I s a w→∀L:Act→World→Prop,(∀s' a w,μ s' < μ s→I s' a w→L a w)→c.wp P (Exit.then L Q) a w):(Code.loop c).wp P Q a w:=by
 refine wp_loop_ghost (fun m a w=>∃s,μ s=m∧I s a w) (μ s0) ⟨s0,rfl,h0⟩ ?_
 rintro m a w ⟨s,rfl,hs⟩
 exact hb s a w hs _ (fun s' a w hlt hI=>⟨μ s',hlt,s',rfl,hI⟩)
def Row (Φ:Fz) (v:Value) (k:Nat) (cs:List Value):Prop :=
 (v=.slice none 0 0∧cs=[])∨∃q m c,v=.slice (some q) m c∧cs.length=m * k∧m≤maxLen∧(cs≠[]→At Φ q cs)
theorem Row.mono {v:Value} {k:Nat} {cs:List Value} (h:Row Φ v k cs) (hl:Φ.Le Ψ):Row Ψ v k cs:=by
 rcases h with h | ⟨q,m,c,h1,h2,h3,h4⟩
 ·exact .inl h
 ·exact .inr ⟨q,m,c,h1,h2,h3,fun h=>(h4 h).mono hl⟩
theorem Row.nil (k:Nat):Row Φ (.slice none 0 0) k []:=.inl ⟨rfl,rfl⟩
def Chunks {α:Type} (R:List Value→α→Prop) (k:Nat):List Value→List α→Prop
 | cs,[]=>cs=[]
 | cs,x::xs=>∃c rest,cs=c++rest∧c.length=k∧R c x∧Chunks R k rest xs
section
variable {α:Type} {R:List Value→α→Prop} {k:Nat}
theorem Chunks.length:∀{xs:List α} {cs:List Value},Chunks R k cs xs→cs.length=xs.length * k
 | [],cs,h=>by simp [Chunks] at h;simp [h]
 | x::xs,cs,⟨c,rest,h1,h2,_,h4⟩=>by
  subst h1
  rw [List.length_append,Chunks.length h4,h2,List.length_cons,Nat.succ_mul];omega
theorem Chunks.mono {R':List Value→α→Prop} (hR:∀c x,R c x→R' c x):∀{xs:List α} {cs:List Value},Chunks R k cs xs→Chunks R' k cs xs
 | [],_,h=>h
 | _::_,_,⟨c,rest,h1,h2,h3,h4⟩=>⟨c,rest,h1,h2,hR _ _ h3,h4.mono hR⟩
theorem Chunks.snoc {c:List Value} {x:α} (hc:c.length=k) (hx:R c x):∀{xs:List α} {cs:List Value},Chunks R k cs xs→Chunks R k (cs++c) (xs++[x])
 | [],cs,h=>by
  simp only [Chunks] at h;subst h
  exact ⟨c,[],by simp,hc,hx,rfl⟩
 | y::ys,cs,⟨d,rest,h1,h2,h3,h4⟩=>⟨d,rest++c,by rw [h1,List.append_assoc],h2,h3,h4.snoc hc hx⟩
theorem Chunks.append:∀{xs ys:List α} {cs ds:List Value},Chunks R k cs xs→Chunks R k ds ys→Chunks R k (cs++ds) (xs++ys)
 | [],ys,cs,ds,h,h'=>by simp only [Chunks] at h;subst h;simpa using h'
 | x::xs,ys,cs,ds,⟨c,rest,h1,h2,h3,h4⟩,h'=>⟨c,rest++ds,by rw [h1,List.append_assoc],h2,h3,h4.append h'⟩
theorem Chunks.get:∀{xs:List α} {cs:List Value} {i:Nat} {x:α},Chunks R k cs xs→xs[i]? = some x→∃c,c.length=k∧R c x∧∀j v,c[j]? = some v→cs[i * k+j]? = some v
 | [],_,_,_,_,hx=>by simp at hx
 | y::ys,cs,0,x,⟨c,rest,h1,h2,h3,h4⟩,hx=>by
  simp only [List.getElem?_cons_zero,Option.some.injEq] at hx
  subst hx
  refine ⟨c,h2,h3,fun j v hj =>?_⟩
  have hlt:j < c.length:=(List.getElem?_eq_some_iff.1 hj).1
  rw [h1,Nat.zero_mul,Nat.zero_add,List.getElem?_append_left hlt];exact hj
 | y::ys,cs,i+1,x,⟨c,rest,h1,h2,h3,h4⟩,hx=>by
  simp only [List.getElem?_cons_succ] at hx
  obtain ⟨d,e1,e2,e3⟩:=Chunks.get h4 hx
  refine ⟨d,e1,e2,fun j v hj =>?_⟩
  have:=e3 j v hj
  rw [h1,List.getElem?_append_right (by rw [h2,Nat.succ_mul];omega)]
  have e:(i+1) * k+j - c.length=i * k+j:=by rw [h2,Nat.succ_mul];omega
  rw [e];exact this
theorem Chunks.nil_iff {cs:List Value} {xs:List α} (h:Chunks R k cs xs) (hk:0 < k):cs=[]↔xs=[]:=by
 cases xs with
 | nil=>simpa [Chunks] using h
 | cons x xs =>
  have:=h.length
  constructor
  ·rintro rfl;rw [List.length_cons,Nat.succ_mul] at this;simp at this;omega
  ·intro e;cases e
end
def SliceOf {α:Type} (R:Fz→List Value→α→Prop) (Φ:Fz) (k:Nat) (v:Value) (xs:List α):Prop:=∃cs,Row Φ v k cs∧Chunks (R Φ) k cs xs
section
variable {α:Type} {R:Fz→List Value→α→Prop} {k:Nat} {v:Value} {xs:List α}
theorem SliceOf.mono (hR:∀Φ Ψ c x,Φ.Le Ψ→R Φ c x→R Ψ c x) (h:SliceOf R Φ k v xs) (hl:Φ.Le Ψ):SliceOf R Ψ k v xs :=
 let ⟨cs,h1,h2⟩:=h;⟨cs,h1.mono hl,h2.mono fun c x hc=>hR _ _ _ _ hl hc⟩
theorem SliceOf.nil (k:Nat):SliceOf R Φ k (.slice none 0 0) []:=⟨[],Row.nil k,rfl⟩
theorem SliceOf.form (h:SliceOf R Φ k v xs) (hk:0 < k):∃p c,v=.slice p xs.length c∧xs.length≤9223372036854775807∧(xs≠[]→∃q,p=some q):=by
 obtain ⟨cs,h1,h2⟩:=h
 rcases h1 with ⟨rfl,rfl⟩ | ⟨q,m,c,rfl,hl,hm,hat⟩
 ·have:=(h2.nil_iff hk).1 rfl
  subst this
  exact ⟨none,0,rfl,by simp,fun h=>absurd rfl h⟩
 ·have:=h2.length
  have:m=xs.length:=Nat.eq_of_mul_eq_mul_right hk (by rw [← hl,this])
  subst this
  exact ⟨some q,c,rfl,by simpa [maxLen] using hm,fun _=>⟨q,rfl⟩⟩
theorem At.sub {p:Addr} {cs ds:List Value} {o:Nat} (h:At Φ p cs) (hd:∀j v,ds[j]? = some v→cs[o+j]? = some v):At Φ (p.add o) ds:=by
 obtain ⟨arr,T,fr,h1,h2⟩:=h.ex
 have hs:=h.spot
 cases p with
 | mk b f s =>
  simp only at hs;subst hs
  have e:(⟨b,f,none⟩:Addr).add o=⟨b,f+o,none⟩:=by
   unfold Addr.add;split
   ·subst_vars;rfl
   ·rfl
  rw [e]
  exact ⟨rfl,arr,T,fr,h1,fun j v hj=>by simpa [Nat.add_assoc] using h2 (o+j) v (hd j v hj)⟩
theorem SliceOf.elem {q:Addr} {m c i:Nat} {x:α} (h:SliceOf R Φ k (.slice (some q) m c) xs) (hx:xs[i]? = some x) (hk:0 < k:=by decide):∃cs,cs.length=k∧At Φ (q.add (i * k)) cs∧R Φ cs x:=by
 obtain ⟨cs,h1,h2⟩:=h
 rcases h1 with ⟨h,_⟩ | ⟨q',m',c',he,hl,hm,hat⟩
 ·cases h
 ·simp only [Value.slice.injEq,Option.some.injEq] at he
  obtain ⟨rfl,rfl,rfl⟩:=he
  obtain ⟨d,e1,e2,e3⟩:=h2.get hx
  have hne:cs≠[]:=fun e=>by rw [(h2.nil_iff hk).1 e] at hx;simp at hx
  exact ⟨d,e1,(hat hne).sub e3,e2⟩
end
theorem Mem.freezeRow {v:Value} {T:TypeId} {k i:Nat} {cs:List Value} (hm:Mem Φ K w) (hk:qJ K i=some (.gs v T k cs)):∃Ψ,Φ.Le Ψ∧Mem Ψ (gH K i) w∧Row Ψ v k cs:=by
 have h:=hm.pull hk
 obtain ⟨m,hl,h2⟩:=hm.own _ (qH hk)
 rcases h2 with ⟨rfl,rfl⟩ | ⟨b,cap,cur,rfl,_,hg,hc,hmx,hcs,htake⟩
 ·exact ⟨Φ,Fz.Le.refl Φ,h.tail,.inl ⟨rfl,List.eq_nil_of_length_eq_zero (by simpa using hl)⟩⟩
 ·refine ⟨_,Fz.le_add (h.no rfl) _,h.freezeHead (b:=b) rfl hg,.inr ⟨_,m,cap,rfl,hl,Nat.le_trans hc hmx,fun _=>⟨rfl,cur,T,(0,0),by simp [Fz.add],fun j v hj =>?_⟩⟩⟩
  rw [← htake,List.getElem?_take] at hj
  split at hj
  ·simpa using hj
  ·cases hj
theorem Mem.freezeBlk {b i:Nat} {cs:List Value} {T:TypeId} (hm:Mem Φ K w) (hk:qJ K i=some (.blk b (ob cs T))):∃Ψ,Φ.Le Ψ∧Mem Ψ (gH K i) w∧At Ψ ⟨b,0,none⟩ cs:=by
 have h:=hm.pull hk
 have ho:w.heap[b]? = some (ob cs T):=hm.own _ (qH hk)
 exact ⟨_,Fz.le_add (h.no rfl) _,h.freezeHead (b:=b) rfl ho,rfl,cs.toArray,T,(0,0),by simp [Fz.add,ob],fun j v hj=>by simpa using hj⟩
theorem Sees.gsForm {v:Value} {T:TypeId} {k i:Nat} {cs:List Value} (hm:Sees Φ K w) (hk:qJ K i=some (.gs v T k cs)):∃p m c,v=.slice p m c∧cs.length=m * k∧m≤maxLen:=by
 obtain ⟨m,hl,h2⟩:=hm.own _ (qH hk)
 rcases h2 with ⟨rfl,rfl⟩ | ⟨b,cap,cur,rfl,_,_,hc,hmx,_⟩
 ·exact ⟨none,0,0,rfl,hl,Nat.zero_le _⟩
 ·exact ⟨_,m,cap,rfl,hl,Nat.le_trans hc hmx⟩
theorem Sees.gsCells {v:Value} {T:TypeId} {k i:Nat} {cs:List Value} (hm:Sees Φ K w) (hk:qJ K i=some (.gs v T k cs)):v.cells.toList=[v]:=by
 obtain ⟨p,m,c,rfl,_⟩:=hm.gsForm hk;rfl
theorem Sees.gsOne {v:Value} {T:TypeId} {k i:Nat} {cs:List Value} (hm:Sees Φ K w) (hk:qJ K i=some (.gs v T k cs)):[v].all Value.oneCell'=true:=by
 obtain ⟨p,m,c,rfl,_⟩:=hm.gsForm hk;rfl
variable {Kn:Value→World→Prop} {Qp:List PanicEntry→World→Prop} {dst:Option Tmp} {ty:TypeId} {pos:String} {aft:Array Edge} {g:Option (Nat×Bool)}
structure RowT (P:Program) (t e:TypeId) (size bytes:Nat):Prop where
 under:P.underlying t=some (.slice e)
 info:∃i z,P.info? e=some i∧i.zero=some z∧i.size=size∧i.bytes=bytes∧z.cells.size=size
 pos:0 < size
 bpos:0 < bytes
def y3q (w:World) (v:Value) (k:Nat) (cs:List Value):Prop :=
 (v=.slice none 0 0∧cs=[])∨∃q m c,v=.slice (some q) m c∧cs.length=m * k∧∀j u,cs[j]? = some u→w.cell? (q.add j)=some u
theorem Row.rowIn {v:Value} {k:Nat} {cs:List Value} (h:Row Φ v k cs) (hm:Sees Φ K w):y3q w v k cs:=by
 rcases h with h | ⟨q,m,c,h1,h2,_,h4⟩
 ·exact .inl h
 ·exact .inr ⟨q,m,c,h1,h2,fun j u hj=>hm.at (h4 fun e=>by rw [e] at hj;simp at hj) j u hj⟩
theorem Sees.rowIn {v:Value} {T:TypeId} {k i:Nat} {cs:List Value} (hm:Sees Φ K w) (hk:qJ K i=some (.gs v T k cs)):y3q w v k cs:=by
 obtain ⟨m,hown⟩:=hm.own _ (qH hk)
 rcases hown.2 with ⟨rfl,rfl⟩ | ⟨b,cap,cur,rfl,_⟩
 ·exact .inl ⟨rfl,List.eq_nil_of_length_eq_zero (by simpa using hown.1)⟩
 ·exact .inr ⟨_,m,cap,rfl,hown.1,hown.cells (g:=b) rfl⟩
theorem q0k (i:Nat) {s x:Operand} {t e:TypeId} {size bytes:Nat} {v vx:Value} {xs news:List Value} (hT:RowT P t e size bytes) (he:EnvR n E D a) (hm:Mem Φ K w)
  (hs:ev E s=some v) (hk:qJ K i=some (.gs v e size xs)) (hx:ev E x=some vx) (hr:y3q w vx size news) (h1:news.all Value.oneCell'=true)
  (hb:∀n m,xs.length=n * size→news.length=m * size→(n+m) * bytes≤140737488355328)
  (k:∀v' w',Mem Φ (wK K i (.gs v' e size (xs++news))) w'→Kn v' w') :
  Oper.eff P ⟨dst,.call { callee:=.builtin .append,args:=#[s,x],argTypes:=#[t,t] },ty,pos,aft,g⟩ a w Kn Qp:=by
 obtain ⟨inf,z,hi,hz,hsz,hby,hzs⟩:=hT.info
 obtain ⟨nn,hown⟩:=hm.own _ (qH hk)
 have hp:=hT.pos
 have hxl:xs.length=nn * size:=hown.1
 have hfin:∀v' w',(Builtin.append_ #[t,t] ty #[v,vx]).run P w=.ok v' w'→Kn v' w' →
   Oper.eff P ⟨dst,.call { callee:=.builtin .append,args:=#[s,x],argTypes:=#[t,t] },ty,pos,aft,g⟩ a w Kn Qp:=by
  intro v' w' hrun hK
  unfold Oper.eff
  have:(execOp a.eval ⟨dst,.call { callee:=.builtin .append,args:=#[s,x],argTypes:=#[t,t] },ty,pos,aft,g⟩).run P w=.ok (.value v') w':=by
   simp only [execOp,resolve,invoke,builtin,Sem.run_bind,Sem.run_pure,Result.andThen_ok,List.map_toArray,List.map_cons,List.map_nil,he.ev hs,he.ev hx,hrun]
  rw [this]
  exact hK
 rcases hr with ⟨rfl,rfl⟩ | ⟨q,m',c,rfl,hl,hat⟩
 ·
  have hfit:∃p nn cap,v=.slice p nn cap∧nn≤cap:=by
   rcases hown.2 with ⟨rfl,rfl⟩ | ⟨b,cap,cur,rfl,_,_,hc,_⟩
   ·exact ⟨none,0,0,rfl,Nat.le_refl _⟩
   ·exact ⟨_,nn,cap,rfl,hc⟩
  obtain ⟨p,nn',cap,rfl,hc⟩:=hfit
  refine hfin (.slice p nn' cap) w ?_ (k _ _ ?_)
  ·cases p with
   | none=>simp [Builtin.append_,run_underlying hT.under,sizeOf,typeInfo,hi,Builtin.lenOf,Builtin.firstCells,hc]
   | some q=>simp [Builtin.append_,run_underlying hT.under,sizeOf,typeInfo,hi,Builtin.lenOf,Builtin.firstCells,hc,storeCells]
  ·rw [List.append_nil]
   exact hm.upd hk rfl rfl (fun _ _ _=>rfl) ⟨nn,hown⟩ (.inl rfl)
 ·have hbb:(nn+m') * bytes≤140737488355328:=hb nn m' hxl hl
  have h63:nn+m'≤Go.maxLen:=by
   have:=Nat.le_trans (Nat.le_mul_of_pos_right (nn+m') hT.bpos) hbb
   simp only [Go.maxLen];omega
  have hsmall:nn+m'≤9223372036854775807:=by simp only [Go.maxLen] at h63;omega
  rcases hown.2 with ⟨rfl,rfl⟩ | ⟨b,cap,cur,rfl,_,hg,hc,hcm,hcs,_⟩
  ·obtain ⟨v',w',hrun,ho',hgr,_⟩:=run_append_own (P:=P) w w.heap.size t ty e inf z size bytes hT.under hi hz hsz hby hzs hp (.slice none 0 0) 0 xs ⟨hown.1,.inl ⟨rfl,rfl⟩⟩ q m' c news hl hat (fun u hu=>List.all_eq_true.1 h1 u hu) h63 hbb (Nat.le_refl _)
   refine hfin v' w' hrun (k _ _ (hm.upd hk hgr.os hgr.output (fun b hb hne=>hgr.block b hb hne) ⟨0+m',?_⟩ (.inr fun b hb=>(ho'.lt b hb).1)))
   exact ⟨ho'.1,ho'.2.imp id fun ⟨g,cap,cur,h1,_,h3⟩=>⟨g,cap,cur,h1,Nat.zero_le _,h3⟩⟩
  ·obtain ⟨v',w',hrun,ho',hgr,_⟩:=run_append_own (P:=P) w 0 t ty e inf z size bytes hT.under hi hz hsz hby hzs hp _ nn xs hown q m' c news hl hat (fun u hu=>List.all_eq_true.1 h1 u hu) h63 hbb (Nat.zero_le _)
   refine hfin v' w' hrun (k _ _ (hm.upd hk hgr.os hgr.output (fun b hb hne=>hgr.block b hb hne) ⟨nn+m',ho'⟩ ?_))
   by_cases hroom:nn+m'≤cap
   ·have hfit:nn * inf.size+news.length≤cur.size:=by rw [hl,hcs,hsz,← Nat.add_mul];exact Nat.mul_le_mul_right _ hroom
    have hr:=run_append_room (P:=P) w t ty e inf hT.under hi b nn cap cur hg q m' c news (by rw [hsz];exact hl) hat (fun u hu=>List.all_eq_true.1 h1 u hu) hroom hfit
    rw [hr] at hrun
    cases hrun
    exact .inl rfl
   ·have holds:∀j u,xs[j]? = some u→w.cell? ((⟨b,0,none⟩:Addr).add j)=some u:=hown.cells (g:=b) rfl
    have hr:=run_append_grow (P:=P) w t ty e inf z hT.under hi hz ⟨b,0,none⟩ nn cap xs (by rw [hsz];exact hxl) holds q m' c news (by rw [hsz];exact hl) hat (by omega) (by omega) (by rw [hby];exact growslice_fits (by omega) hbb)
    rw [hr] at hrun
    cases hrun
    exact .inr fun c hc=>by simp [Res.foot,Value.ownBlock] at hc;omega
theorem cO (i:Nat) {s x:Operand} {t e:TypeId} {size bytes:Nat} {v vx:Value} {xs news:List Value} (hT:RowT P t e size bytes) (he:EnvR n E D a) (hm:Mem Φ K w)
  (hs:ev E s=some v) (hk:qJ K i=some (.gs v e size xs)) (hx:ev E x=some vx) (hr:y3q w vx size news) (h1:news.all Value.oneCell'=true)
  (hb:(xs.length+news.length) * bytes≤140737488355328)
  (k:∀v' w',Mem Φ (wK K i (.gs v' e size (xs++news))) w'→Kn v' w') :
  Oper.eff P ⟨dst,.call { callee:=.builtin .append,args:=#[s,x],argTypes:=#[t,t] },ty,pos,aft,g⟩ a w Kn Qp :=
 q0k i hT he hm hs hk hx hr h1 (fun n m hn hl=>by
  refine Nat.le_trans (Nat.mul_le_mul_right _ ?_) hb
  rw [hn,hl,← Nat.add_mul]
  exact Nat.le_mul_of_pos_right _ hT.pos) k
end Go.Sw

namespace Go.Sw
variable {P:Program} {n:Nat} {E:List (Nat×Value)} {D:List Deferred} {a:Act} {Φ Ψ:Fz} {K K':List Res} {w:World}
section
variable {ops:Array Oper} {B:World→Prop} {kd:List Nat} {Qp:List PanicEntry→World→Prop} {Q:Act→World→Prop} {d:Nat} {v:Value} {op:Op} {ty:TypeId} {pos:String} {aft:Array Edge} {g:Option (Nat×Bool)} {i:Nat} {p:Plan} {dst:Option Tmp}
theorem aC {id:Nat} {l:List Oper} {Q:Exit→Act→World→Prop} (kd:List Nat) (p:Plan) (K':List Res) (he:EnvR n E D a) (hm:Mem Φ K w) (hw:P.follows .mixedOrders=true) (hB:z2u l.toArray kd p=true) (hK:∀r∈K',r∈K)
  (h:∀w,Mem Φ K w→zW P .any l.toArray (Sees Φ K') kd (fun c w=>∀a,a.defers=D→Q (.panic c) a w) (Q .normal) p a w):(Code.region id l.toArray true).wp P Q a w:=by
 have hm':=hm.drew
 exact y2x (D:=D) kd p (Sees Φ K') (fun c w=>∀a,a.defers=D→Q (.panic c) a w) hw hB (fun c a w hd h=>h a hd) he.defs ⟨hm'.fz,fun r hr=>hm'.own r (hK r hr)⟩ (h _ hm')
theorem mQ {o:Oper} (hg:o.guard=none) (f:Nat→Option Bool):Region.wanted o f=true:=by simp [Region.wanted,hg]
theorem d_q (he:EnvR n E D a) (hi:ops[i]? = some ⟨some d,op,ty,pos,aft,none⟩) (hk:qA kd i=2) (ho:∀w,B w→Ok P a op ty w v) (hd:Nat.blt d n=true)
  (k:∀a,EnvR n ((d,v)::E) D a→zW P .any ops B kd Qp Q p a w):zW P .any ops B kd Qp Q (.q i p) a w:=by
 unfold zW vC
 simp only [hi]
 rw [if_pos (mQ rfl _),if_neg (by rw [hk];decide)]
 exact ⟨v,fun w hw=>ho w (hw hk) _ _ _ _,k _ (he.put hd)⟩
theorem z8v (he:EnvR n E D a) (hi:ops[i]? = some ⟨some d,op,ty,pos,aft,none⟩) (hk:qA kd i=1) (ho:∀w,Ok P a op ty w v) (hd:Nat.blt d n=true)
  (k:∀a,EnvR n ((d,v)::E) D a→zW P .any ops B kd Qp Q p a w):zW P .any ops B kd Qp Q (.q i p) a w:=by
 unfold zW vC
 simp only [hi]
 rw [if_pos (mQ rfl _),if_neg (by rw [hk];decide)]
 exact ⟨v,fun w _=>ho w _ _ _ _,k _ (he.put hd)⟩
theorem d_qg (he:EnvR n E D a) {j t:Nat} {b:Bool} (hi:ops[i]? = some ⟨some d,op,ty,pos,aft,some (j,b)⟩) (hj:ops[j]?.bind (·.dst)=some t) (hv:get E t=some (.bool b)) (hk:qA kd i=2)
  (ho:∀w,B w→Ok P a op ty w v) (hd:Nat.blt d n=true)
  (k:∀a,EnvR n ((d,v)::E) D a→zW P .any ops B kd Qp Q p a w):zW P .any ops B kd Qp Q (.q i p) a w:=by
 unfold zW vC
 simp only [hi]
 rw [if_pos (mH he rfl hj hv),if_neg (by rw [hk];decide)]
 exact ⟨v,fun w hw=>ho w (hw hk) _ _ _ _,k _ (he.put hd)⟩
theorem d_qg1 (he:EnvR n E D a) {j t:Nat} {b:Bool} (hi:ops[i]? = some ⟨some d,op,ty,pos,aft,some (j,b)⟩) (hj:ops[j]?.bind (·.dst)=some t) (hv:get E t=some (.bool b)) (hk:qA kd i=1)
  (ho:∀w,Ok P a op ty w v) (hd:Nat.blt d n=true)
  (k:∀a,EnvR n ((d,v)::E) D a→zW P .any ops B kd Qp Q p a w):zW P .any ops B kd Qp Q (.q i p) a w:=by
 unfold zW vC
 simp only [hi]
 rw [if_pos (mH he rfl hj hv),if_neg (by rw [hk];decide)]
 exact ⟨v,fun w _=>ho w _ _ _ _,k _ (he.put hd)⟩
theorem y7d (h:Q a w):zW P .any ops B kd Qp Q .done a w:=h
theorem d_no (he:EnvR n E D a) {j t:Nat} {b:Bool} (hi:ops[i]? = some ⟨some d,op,ty,pos,aft,some (j,b)⟩) (hj:ops[j]?.bind (·.dst)=some t) {u:Value} (hv:get E t=some u) (hb:y8g u b=true)
  (hd:Nat.blt d n=true) (k:∀a,EnvR n ((d,undef)::E) D a→zW P .any ops B kd Qp Q p a w):zW P .any ops B kd Qp Q (.q i p) a w:=by
 unfold zW vC
 simp only [hi]
 rw [if_neg (by rw [uW he rfl hj hv hb];simp)]
 exact k _ (he.put hd)
theorem d_no_e (he:EnvR n E D a) {j t:Nat} {b:Bool} (hi:ops[i]? = some ⟨some d,op,ty,pos,aft,some (j,b)⟩) (hj:ops[j]?.bind (·.dst)=some t) {u:Value} (hv:get E t=some u) (hb:y8g u b=true)
  (hd:Nat.blt d n=true) (k:∀a,EnvR n ((d,undef)::E) D a→zW P .any ops B kd Qp Q p a w):zW P .any ops B kd Qp Q (.e i p) a w:=by
 unfold zW vC
 simp only [hi]
 rw [if_neg (by rw [uW he rfl hj hv hb];simp)]
 exact k _ (he.put hd)
theorem wW (he:EnvR n E D a) {L:Act→World→Prop} (hi:ops[i]? = some ⟨some d,op,ty,pos,aft,none⟩) (hk:qA kd i=0) (hd:Nat.blt d n=true)
  (h:Oper.eff P ⟨some d,op,ty,pos,aft,none⟩ a w (fun v w'=>(cY .any kd ⟨some d,op,ty,pos,aft,none⟩=true→B w')∧∀a,EnvR n ((d,v)::E) D a→L a w') Qp):vC P .any ops B kd Qp i L a w:=by
 unfold vC
 simp only [hi]
 rw [if_pos (mQ rfl _),if_pos hk]
 exact jV (Oper.eff.toR h) (fun v w' hv=>⟨hv.1,hv.2 _ (he.put hd)⟩) (fun _ _ h=>h)
theorem drOp_e0 (he:EnvR n E D a) {L:Act→World→Prop} (hi:ops[i]? = some ⟨none,op,ty,pos,aft,none⟩) (hk:qA kd i=0)
  (h:Oper.eff P ⟨none,op,ty,pos,aft,none⟩ a w (fun _ w'=>(cY .any kd ⟨none,op,ty,pos,aft,none⟩=true→B w')∧∀a,EnvR n E D a→L a w') Qp):vC P .any ops B kd Qp i L a w:=by
 unfold vC
 simp only [hi]
 rw [if_pos (mQ rfl _),if_pos hk]
 exact jV (Oper.eff.toR h) (fun v w' hv=>⟨hv.1,hv.2 _ he.put_none⟩) (fun _ _ h=>h)
theorem drOp_eg (he:EnvR n E D a) {L:Act→World→Prop} {j t:Nat} {b:Bool} (hi:ops[i]? = some ⟨some d,op,ty,pos,aft,some (j,b)⟩) (hj:ops[j]?.bind (·.dst)=some t) (hv:get E t=some (.bool b)) (hk:qA kd i=0) (hd:Nat.blt d n=true)
  (h:Oper.eff P ⟨some d,op,ty,pos,aft,some (j,b)⟩ a w (fun v w'=>(cY .any kd ⟨some d,op,ty,pos,aft,some (j,b)⟩=true→B w')∧∀a,EnvR n ((d,v)::E) D a→L a w') Qp):vC P .any ops B kd Qp i L a w:=by
 unfold vC
 simp only [hi]
 rw [if_pos (mH he rfl hj hv),if_pos hk]
 exact jV (Oper.eff.toR h) (fun v w' hv=>⟨hv.1,hv.2 _ (he.put hd)⟩) (fun _ _ h=>h)
theorem d_e (he:EnvR n E D a) (hi:ops[i]? = some ⟨some d,op,ty,pos,aft,none⟩) (hk:qA kd i=0) (hd:Nat.blt d n=true)
  (h:Oper.eff P ⟨some d,op,ty,pos,aft,none⟩ a w (fun v w'=>(cY .any kd ⟨some d,op,ty,pos,aft,none⟩=true→B w')∧∀a,EnvR n ((d,v)::E) D a→zW P .any ops B kd Qp Q p a w') Qp):zW P .any ops B kd Qp Q (.e i p) a w :=
 wW he hi hk hd h
theorem vM (he:EnvR n E D a) (hi:ops[i]? = some ⟨none,op,ty,pos,aft,none⟩) (hk:qA kd i=0)
  (h:Oper.eff P ⟨none,op,ty,pos,aft,none⟩ a w (fun _ w'=>(cY .any kd ⟨none,op,ty,pos,aft,none⟩=true→B w')∧∀a,EnvR n E D a→zW P .any ops B kd Qp Q p a w') Qp):zW P .any ops B kd Qp Q (.e i p) a w :=
 drOp_e0 he hi hk h
theorem d_eg (he:EnvR n E D a) {j t:Nat} {b:Bool} (hi:ops[i]? = some ⟨some d,op,ty,pos,aft,some (j,b)⟩) (hj:ops[j]?.bind (·.dst)=some t) (hv:get E t=some (.bool b)) (hk:qA kd i=0) (hd:Nat.blt d n=true)
  (h:Oper.eff P ⟨some d,op,ty,pos,aft,some (j,b)⟩ a w (fun v w'=>(cY .any kd ⟨some d,op,ty,pos,aft,some (j,b)⟩=true→B w')∧∀a,EnvR n ((d,v)::E) D a→zW P .any ops B kd Qp Q p a w') Qp):zW P .any ops B kd Qp Q (.e i p) a w :=
 drOp_eg he hi hj hv hk hd h
theorem vQ {i j:Nat} {p r:Plan} (h1:zW P .any ops B kd Qp Q (.e i p) a w) (h2:zW P .any ops B kd Qp Q (.e j r) a w):zW P .any ops B kd Qp Q (.e2 i j p r) a w:=⟨h1,h2⟩
theorem Mem.seesIn (hm:Mem Ψ K w) (hl:Φ.Le Ψ) (hK:∀r∈K',r∈K):Sees Φ K' w:=⟨fun b o hb=>hm.fz b o (hl.obj b o hb),fun r hr=>hm.own r (hK r hr)⟩
end
section
variable {Kn:Value→World→Prop} {Qp:List PanicEntry→World→Prop} {dst:Option Tmp} {ty:TypeId} {pos:String} {aft:Array Edge} {g:Option (Nat×Bool)}
variable {f:FuncId} {xs:Array Operand} {ts:Array TypeId} {vs:List Value}
theorem gP {X:Value} {Φ':Fz} {K':List Res} (he:EnvR n E D a) (hx:evs E xs.toList=some vs) (hf:∀args w,(callFunc f args).run P w=.ok (.enter f args) w)
  (hc:Calls P f vs.toArray w (fun e w'=>e=.returned X∧Mem Φ' K' w')) (k:∀w',Mem Φ' K' w'→Kn X w') :
  Oper.eff P ⟨dst,.call { callee:=.value (.func f),args:=xs,argTypes:=ts },ty,pos,aft,g⟩ a w Kn Qp :=
 mW he hx hf hc (fun v w' h=>by cases h.1;exact k _ h.2) (fun c w' h=>by cases h.1) (fun w' h=>by cases h.1)
theorem gO {Φ':Fz} {K':Value→List Res} (he:EnvR n E D a) (hx:evs E xs.toList=some vs) (hf:∀args w,(callFunc f args).run P w=.ok (.enter f args) w)
  (hc:Calls P f vs.toArray w (fun e w'=>∃v,e=.returned v∧Mem Φ' (K' v) w')) (k:∀v w',Mem Φ' (K' v) w'→Kn v w') :
  Oper.eff P ⟨dst,.call { callee:=.value (.func f),args:=xs,argTypes:=ts },ty,pos,aft,g⟩ a w Kn Qp :=
 mW he hx hf hc (fun v w' h=>by obtain ⟨u,h1,h2⟩:=h;cases h1;exact k _ _ h2) (fun c w' h=>by obtain ⟨u,h1,_⟩:=h;cases h1) (fun w' h=>by obtain ⟨u,h1,_⟩:=h;cases h1)
theorem j0w {b:Bool} {Φ':Fz} {K':List Res} (he:EnvR n E D a) (hx:evs E xs.toList=some vs) (hf:∀args w,(callFunc f args).run P w=.ok (.enter f args) w)
  (hc:Calls P f vs.toArray w (fun e w'=>e=.returned (.bool b)∧Mem Φ' K' w')) (kt:b=true→∀w',Mem Φ' K' w'→Kn (.bool true) w') (kf:b=false→∀w',Mem Φ' K' w'→Kn (.bool false) w') :
  Oper.eff P ⟨dst,.call { callee:=.value (.func f),args:=xs,argTypes:=ts },ty,pos,aft,g⟩ a w Kn Qp:=by
 refine gP he hx hf hc fun w' hm =>?_
 cases b with
 | true=>exact kt rfl _ hm
 | false=>exact kf rfl _ hm
end
section
variable {Kn:Value→World→Prop} {Qp:List PanicEntry→World→Prop} {dst:Option Tmp} {ty:TypeId} {pos:String} {aft:Array Edge} {g:Option (Nat×Bool)}
variable {f:FuncId} {xs:Array Operand} {ts:Array TypeId} {vs fs cs:List Value} {y:Operand}
theorem z8z {X:Value} {Φ':Fz} {K':List Res} (he:EnvR n E D a) (hy:ev E y=some (.func (.func f) fs.toArray cs.toArray)) (hx:evs E xs.toList=some vs) (hf:∀args w,(callFunc f args).run P w=.ok (.enter f args) w)
  (hc:Calls P f (fs++vs++cs).toArray w (fun e w'=>e=.returned X∧Mem Φ' K' w')) (k:∀w',Mem Φ' K' w'→Kn X w') :
  Oper.eff P ⟨dst,.call { callee:=.value y,args:=xs,argTypes:=ts },ty,pos,aft,g⟩ a w Kn Qp :=
 z3z he hy hx hf hc (fun v w' h=>by cases h.1;exact k _ h.2) (fun c w' h=>by cases h.1) (fun w' h=>by cases h.1)
theorem q4k {b:Bool} {Φ':Fz} {K':List Res} (he:EnvR n E D a) (hy:ev E y=some (.func (.func f) fs.toArray cs.toArray)) (hx:evs E xs.toList=some vs) (hf:∀args w,(callFunc f args).run P w=.ok (.enter f args) w)
  (hc:Calls P f (fs++vs++cs).toArray w (fun e w'=>e=.returned (.bool b)∧Mem Φ' K' w')) (kt:b=true→∀w',Mem Φ' K' w'→Kn (.bool true) w') (kf:b=false→∀w',Mem Φ' K' w'→Kn (.bool false) w') :
  Oper.eff P ⟨dst,.call { callee:=.value y,args:=xs,argTypes:=ts },ty,pos,aft,g⟩ a w Kn Qp:=by
 refine z8z he hy hx hf hc fun w' hm =>?_
 cases b with
 | true=>exact kt rfl _ hm
 | false=>exact kf rfl _ hm
end
theorem xD {Q:Exit→Act→World→Prop} {c:Code} (I:Nat→Act→World→Prop) (m0:Nat) (h0:I m0 a w)
  (hb:∀m a w,I m a w→∀L:Act→World→Prop,(∀m' a w,m' < m→I m' a w→L a w)→c.wp P (Exit.then L Q) a w):(Code.loop c).wp P Q a w:=by
 refine wp_loop_ghost I m0 h0 fun m a w hI=>hb m a w hI _ fun m' a w hlt h=>⟨m',hlt,h⟩
end Go.Sw

namespace Go.Sw
abbrev Bs:=ByteArray
def I64 (i:Int):Prop:=-9223372036854775808≤i∧i≤9223372036854775807
theorem I64.wrap {i:Int} (h:I64 i):IntKind.i64.wrap i=i:=yX h
theorem I64.of_wrap (i:Int):I64 (IntKind.i64.wrap i):=by
 simp only [I64,IntKind.wrap,IntKind.signed,IntKind.bits]
 simp
 omega
inductive Val where
 | mk (con:Bs) (num:Int) (args:List Val)
namespace Val
def con:Val→Bs | .mk c _ _=>c
def num:Val→Int | .mk _ n _=>n
def args:Val→List Val | .mk _ _ a=>a
end Val
mutual
inductive Ex where
 | mk (kind num:Int) (name:Bs) (args:List Ex) (arms:List Arm)
inductive Arm where
 | mk (con:Bs) (vars:List Bs) (body:Ex)
end
namespace Ex
def kind:Ex→Int | .mk k _ _ _ _=>k
def num:Ex→Int | .mk _ n _ _ _=>n
def name:Ex→Bs | .mk _ _ s _ _=>s
def args:Ex→List Ex | .mk _ _ _ a _=>a
def arms:Ex→List Arm | .mk _ _ _ _ a=>a
end Ex
namespace Arm
def con:Arm→Bs | .mk c _ _=>c
def vars:Arm→List Bs | .mk _ v _=>v
def body:Arm→Ex | .mk _ _ b=>b
end Arm
structure Param where
 name:Bs
 type:Bs
structure Con where
 name:Bs
 fields:List Bs
structure Data where
 name:Bs
 cons:List Con
structure Fun where
 name:Bs
 params:List Param
 result:Bs
 body:Ex
structure Core where
 datas:List Data
 inputs:List Param
 funs:List Fun
 outputs:List Bs
structure Named where
 name:Bs
 value:Val
def RStr (_:Fz) (cs:List Value) (s:Bs):Prop:=cs=[.string s]
theorem RStr.mono (Φ Ψ:Fz) (c:List Value) (x:Bs) (_:Φ.Le Ψ) (h:RStr Φ c x):RStr Ψ c x:=h
mutual
def RVal' (Φ:Fz):Val→List Value→Prop
 | .mk con num args,cs=>∃s d,cs=[.string con,.int .i64 num,s]∧I64 num∧Row Φ s 3 d∧RVals' Φ args d
def RVals' (Φ:Fz):List Val→List Value→Prop
 | [],cs=>cs=[]
 | x::xs,cs=>∃c rest,cs=c++rest∧c.length=3∧RVal' Φ x c∧RVals' Φ xs rest
end
def RVal (Φ:Fz) (cs:List Value) (x:Val):Prop:=RVal' Φ x cs
theorem RVals'.iff {Φ:Fz}:∀{xs:List Val} {cs:List Value},RVals' Φ xs cs↔Chunks (RVal Φ) 3 cs xs
 | [],cs=>by simp only [RVals',Chunks]
 | x::xs,cs=>by simp only [RVals',Chunks,RVals'.iff (xs:=xs),RVal]
theorem RVal.iff {Φ:Fz} {cs:List Value} {x:Val}:RVal Φ cs x↔∃s,cs=[.string x.con,.int .i64 x.num,s]∧I64 x.num∧SliceOf RVal Φ 3 s x.args:=by
 cases x with
 | mk con num args =>
  simp only [RVal,RVal',RVals'.iff,Val.con,Val.num,Val.args,SliceOf]
  constructor
  ·rintro ⟨s,d,h1,h2,h3,h4⟩;exact ⟨s,h1,h2,d,h3,h4⟩
  ·rintro ⟨s,h1,h2,d,h3,h4⟩;exact ⟨s,d,h1,h2,h3,h4⟩
mutual
theorem RVal'.mono {Φ Ψ:Fz} (hl:Φ.Le Ψ):∀{x:Val} {cs:List Value},RVal' Φ x cs→RVal' Ψ x cs
 | .mk _ _ _,_,⟨s,d,h1,h2,h3,h4⟩=>⟨s,d,h1,h2,h3.mono hl,RVals'.mono hl h4⟩
theorem RVals'.mono {Φ Ψ:Fz} (hl:Φ.Le Ψ):∀{xs:List Val} {cs:List Value},RVals' Φ xs cs→RVals' Ψ xs cs
 | [],_,h=>h
 | _::_,_,⟨c,rest,h1,h2,h3,h4⟩=>⟨c,rest,h1,h2,RVal'.mono hl h3,RVals'.mono hl h4⟩
end
theorem RVal.mono (Φ Ψ:Fz) (c:List Value) (x:Val) (hl:Φ.Le Ψ) (h:RVal Φ c x):RVal Ψ c x:=RVal'.mono hl h
mutual
def REx' (Φ:Fz):Ex→List Value→Prop
 | .mk kind num name args arms,cs=>∃s t d f,cs=[.int .i64 kind,.int .i64 num,.string name,s,t]∧I64 num∧Row Φ s 5 d∧REs' Φ args d∧Row Φ t 7 f∧RArms' Φ arms f
def REs' (Φ:Fz):List Ex→List Value→Prop
 | [],cs=>cs=[]
 | x::xs,cs=>∃c rest,cs=c++rest∧c.length=5∧REx' Φ x c∧REs' Φ xs rest
def RArm' (Φ:Fz):Arm→List Value→Prop
 | .mk con vars body,cs=>∃s b,cs=.string con::s::b∧b.length=5∧SliceOf RStr Φ 1 s vars∧REx' Φ body b
def RArms' (Φ:Fz):List Arm→List Value→Prop
 | [],cs=>cs=[]
 | x::xs,cs=>∃c rest,cs=c++rest∧c.length=7∧RArm' Φ x c∧RArms' Φ xs rest
end
def REx (Φ:Fz) (cs:List Value) (x:Ex):Prop:=REx' Φ x cs
def RArm (Φ:Fz) (cs:List Value) (x:Arm):Prop:=RArm' Φ x cs
theorem REs'.iff {Φ:Fz}:∀{xs:List Ex} {cs:List Value},REs' Φ xs cs↔Chunks (REx Φ) 5 cs xs
 | [],cs=>by simp only [REs',Chunks]
 | x::xs,cs=>by simp only [REs',Chunks,REs'.iff (xs:=xs),REx]
theorem RArms'.iff {Φ:Fz}:∀{xs:List Arm} {cs:List Value},RArms' Φ xs cs↔Chunks (RArm Φ) 7 cs xs
 | [],cs=>by simp only [RArms',Chunks]
 | x::xs,cs=>by simp only [RArms',Chunks,RArms'.iff (xs:=xs),RArm]
theorem REx.iff {Φ:Fz} {cs:List Value} {x:Ex}:REx Φ cs x↔∃s t,cs=[.int .i64 x.kind,.int .i64 x.num,.string x.name,s,t]∧I64 x.num∧SliceOf REx Φ 5 s x.args∧SliceOf RArm Φ 7 t x.arms:=by
 cases x with
 | mk kind num name args arms =>
  simp only [REx,REx',REs'.iff,RArms'.iff,Ex.kind,Ex.num,Ex.name,Ex.args,Ex.arms,SliceOf]
  constructor
  ·rintro ⟨s,t,d,f,h1,h2,h3,h4,h5,h6⟩;exact ⟨s,t,h1,h2,⟨d,h3,h4⟩,f,h5,h6⟩
  ·rintro ⟨s,t,h1,h2,⟨d,h3,h4⟩,f,h5,h6⟩;exact ⟨s,t,d,f,h1,h2,h3,h4,h5,h6⟩
theorem RArm.iff {Φ:Fz} {cs:List Value} {x:Arm}:RArm Φ cs x↔∃s b,cs=.string x.con::s::b∧SliceOf RStr Φ 1 s x.vars∧REx Φ b x.body:=by
 cases x with
 | mk con vars body =>
  simp only [RArm,RArm',Arm.con,Arm.vars,Arm.body,REx]
  constructor
  ·rintro ⟨s,b,h1,_,h3,h4⟩;exact ⟨s,b,h1,h3,h4⟩
  ·rintro ⟨s,b,h1,h3,h4⟩
   refine ⟨s,b,h1,?_,h3,h4⟩
   obtain ⟨s,t,rfl,_⟩:=REx.iff.1 (show REx Φ b body from h4)
   rfl
mutual
theorem REx'.mono {Φ Ψ:Fz} (hl:Φ.Le Ψ):∀{x:Ex} {cs:List Value},REx' Φ x cs→REx' Ψ x cs
 | .mk _ _ _ _ _,_,⟨s,t,d,f,h1,h2,h3,h4,h5,h6⟩=>⟨s,t,d,f,h1,h2,h3.mono hl,REs'.mono hl h4,h5.mono hl,RArms'.mono hl h6⟩
theorem REs'.mono {Φ Ψ:Fz} (hl:Φ.Le Ψ):∀{xs:List Ex} {cs:List Value},REs' Φ xs cs→REs' Ψ xs cs
 | [],_,h=>h
 | _::_,_,⟨c,rest,h1,h2,h3,h4⟩=>⟨c,rest,h1,h2,REx'.mono hl h3,REs'.mono hl h4⟩
theorem RArm'.mono {Φ Ψ:Fz} (hl:Φ.Le Ψ):∀{x:Arm} {cs:List Value},RArm' Φ x cs→RArm' Ψ x cs
 | .mk _ _ _,_,⟨s,b,h1,h2,h3,h4⟩=>⟨s,b,h1,h2,h3.mono RStr.mono hl,REx'.mono hl h4⟩
theorem RArms'.mono {Φ Ψ:Fz} (hl:Φ.Le Ψ):∀{xs:List Arm} {cs:List Value},RArms' Φ xs cs→RArms' Ψ xs cs
 | [],_,h=>h
 | _::_,_,⟨c,rest,h1,h2,h3,h4⟩=>⟨c,rest,h1,h2,RArm'.mono hl h3,RArms'.mono hl h4⟩
end
theorem REx.mono (Φ Ψ:Fz) (c:List Value) (x:Ex) (hl:Φ.Le Ψ) (h:REx Φ c x):REx Ψ c x:=REx'.mono hl h
theorem RArm.mono (Φ Ψ:Fz) (c:List Value) (x:Arm) (hl:Φ.Le Ψ) (h:RArm Φ c x):RArm Ψ c x:=RArm'.mono hl h
def RParam (_:Fz) (cs:List Value) (x:Param):Prop:=cs=[.string x.name,.string x.type]
theorem RParam.mono (Φ Ψ:Fz) (c:List Value) (x:Param) (_:Φ.Le Ψ) (h:RParam Φ c x):RParam Ψ c x:=h
def RCon (Φ:Fz) (cs:List Value) (x:Con):Prop:=∃s,cs=[.string x.name,s]∧SliceOf RStr Φ 1 s x.fields
theorem RCon.mono (Φ Ψ:Fz) (c:List Value) (x:Con) (hl:Φ.Le Ψ) (h:RCon Φ c x):RCon Ψ c x:=let ⟨s,h1,h2⟩:=h;⟨s,h1,h2.mono RStr.mono hl⟩
def RData (Φ:Fz) (cs:List Value) (x:Data):Prop:=∃s,cs=[.string x.name,s]∧SliceOf RCon Φ 2 s x.cons
theorem RData.mono (Φ Ψ:Fz) (c:List Value) (x:Data) (hl:Φ.Le Ψ) (h:RData Φ c x):RData Ψ c x:=let ⟨s,h1,h2⟩:=h;⟨s,h1,h2.mono RCon.mono hl⟩
def RFun (Φ:Fz) (cs:List Value) (x:Fun):Prop:=∃s b,cs=.string x.name::s::.string x.result::b∧SliceOf RParam Φ 2 s x.params∧REx Φ b x.body
theorem RFun.mono (Φ Ψ:Fz) (c:List Value) (x:Fun) (hl:Φ.Le Ψ) (h:RFun Φ c x):RFun Ψ c x:=let ⟨s,b,h1,h2,h3⟩:=h;⟨s,b,h1,h2.mono RParam.mono hl,REx.mono _ _ _ _ hl h3⟩
def RCore (Φ:Fz) (cs:List Value) (x:Core):Prop :=
 ∃s t u v,cs=[s,t,u,v]∧SliceOf RData Φ 2 s x.datas∧SliceOf RParam Φ 2 t x.inputs∧SliceOf RFun Φ 8 u x.funs∧SliceOf RStr Φ 1 v x.outputs
theorem RCore.mono (Φ Ψ:Fz) (c:List Value) (x:Core) (hl:Φ.Le Ψ) (h:RCore Φ c x):RCore Ψ c x :=
 let ⟨s,t,u,v,h1,h2,h3,h4,h5⟩:=h;⟨s,t,u,v,h1,h2.mono RData.mono hl,h3.mono RParam.mono hl,h4.mono RFun.mono hl,h5.mono RStr.mono hl⟩
def RNamed (Φ:Fz) (cs:List Value) (x:Named):Prop:=∃b,cs=.string x.name::b∧RVal Φ b x.value
theorem RNamed.mono (Φ Ψ:Fz) (c:List Value) (x:Named) (hl:Φ.Le Ψ) (h:RNamed Φ c x):RNamed Ψ c x:=let ⟨b,h1,h2⟩:=h;⟨b,h1,RVal.mono _ _ _ _ hl h2⟩
theorem zA {α:Type} {l:List α} {i:Nat} {x:α} (h:l[i]? = some x):l.drop i=x::l.drop (i+1):=by
 obtain ⟨h1,h2⟩:=List.getElem?_eq_some_iff.1 h
 rw [← h2];exact List.drop_eq_getElem_cons h1
theorem zX {α:Type} {l:List α} {i:Nat} (h:i < l.length):∃x,l[i]? = some x:=⟨_,List.getElem?_eq_getElem h⟩
theorem aS {α:Type} {l:List α} {i:Nat} (h:i < l.length):l≠[]:=by rintro rfl;simp at h
end Go.Sw

namespace Go.Sw
def yB {σ α:Type} (step:σ→α→Bool×σ):σ→List α→Nat→Int×σ
 | s,[],_=>(-1,s)
 | s,x::xs,i=>if (step s x).1 then ((i:Int),(step s x).2) else yB step (step s x).2 xs (i+1)
def tE {σ α:Type} (step:σ→α→Bool×σ):σ→List α→Bool
 | _,[]=>false
 | s,x::xs=>if (step s x).1 then true else tE step (step s x).2 xs
theorem xY {σ α:Type} (step:σ→α→Bool×σ):∀(l:List α) (s:σ) (i:Nat),decide (0≤(yB step s l i).1)=tE step s l
 | [],s,i=>by simp [yB,tE]
 | x::xs,s,i=>by
  simp only [yB,tE]
  split
  ·simp
  ·exact xY step xs (step s x).2 (i+1)
theorem pF {σ α:Type} {p:α→Bool} {s:σ}:∀(l:List α),tE (fun (s:σ) x=>(p x,s)) s l=l.any p
 | []=>rfl
 | x::xs=>by simp only [tE,pF xs,List.any_cons];cases p x <;> rfl
theorem zE {α:Type} {l:List α} {i:Nat} (h:¬i < l.length):l.drop i=[]:=List.drop_of_length_le (by omega)
end Go.Sw
