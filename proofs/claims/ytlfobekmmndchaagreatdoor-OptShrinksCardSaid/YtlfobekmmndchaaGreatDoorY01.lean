import GoSem.Instr.MapUpdate
import Derived.Lib.LaidTab
import Derived.Lib.ItoaNum
import Derived.Test.YtlfobekmmndchaaGreatDoorProg
import Derived.Test.YtlfobekmmndchaaGreatDoorY00
set_option linter.unusedVariables false
set_option linter.unusedSimpArgs false
namespace Go.Sw
variable {P:Program} {n:Nat} {E:List (Nat×Value)} {D:List Deferred} {a:Act} {Φ Ψ:Fz} {K:List Res} {w:World}
variable {dst:Option Tmp} {ty:TypeId} {pos:String} {aft:Array Edge} {g:Option (Nat×Bool)}
variable {Kn:Value->World->Prop} {Qp:List PanicEntry->World->Prop}
def jR:List (Bs×Value)->Bs->Option Value
 | [],_=>none
 | (k,v)::m,s=>if s=k then some v else jR m s
def z0y:List (Bs×Value)->Bs->Value->List (Bs×Value)
 | [],s,x=>[(s,x)]
 | (k,v)::m,s,x=>if s=k then (k,x)::m else (k,v)::z0y m s x
def MapAt (Φ:Fz) (b:Nat) (m:List (Bs×Value)):Prop:=∃es clock,Φ.obj b=some (.map es clock)/\MapOk es clock m
theorem MapAt.mono {b:Nat} {m:List (Bs×Value)} (h:MapAt Φ b m) (hl:Φ.Le Ψ):MapAt Ψ b m:=let ⟨es,c,a,d⟩:=h;⟨es,c,hl.obj _ _ a,d⟩
def tI:List (Bs×Value)->Bs->Nat->Option (Nat×Value)
 | [],_,_=>none
 | (k,v)::m,s,i=>if s=k then some (i,v) else tI m s (i+1)
theorem wL (s t:ByteArray):(s==t)=decide (s=t):=by
 show (s.data==t.data)=_;rw [Bool.eq_iff_iff];simp;constructor
 ·intro h;cases s;cases t;simp_all
 ·rintro rfl;rfl
theorem z2k:∀(es:List MapEntry) (m:List (Bs×Value)) (s:Bs) (i:Nat),es.map (fun e=>(e.key,e.val))=m.map (fun p=>(Value.string p.1,p.2)) ->
  Instr.findNow .string (.string s) es i=some (tI m s i)
 | [],[],_,_,_=>rfl
 | [],_::_,_,_,h=>by simp at h
 | _::_,[],_,_,h=>by simp at h
 | e::es,(k,v)::m,s,i,h=>by
  simp only [List.map_cons,List.cons.injEq,Prod.mk.injEq] at h;obtain ⟨⟨a,b⟩,c⟩:=h;simp only [Instr.findNow,a,Instr.sameNow,wL,tI];by_cases O:s=k
  ·simp [O,b]
  ·simp only [O,decide_false,if_false]
   exact z2k es m s (i+1) c
theorem y6c:∀(m:List (Bs×Value)) (s:Bs) (i:Nat),(tI m s i).map (·.2)=jR m s
 | [],_,_=>rfl
 | (k,v)::m,s,i=>by
  simp only [tI,jR];split
  ·rfl
  ·exact y6c m s (i+1)
theorem oU {kt:TypeId} (a:Under P kt .string) (e:Bool) (v:Value) (j:Nat):(Instr.checkKey e (j+1) kt v).run P w=.ok () w:=by
 simp [Instr.checkKey,Sem.run_bind,a w]
theorem z6j {kt:TypeId} (a:Under P kt .string) {es:Array MapEntry} {m:List (Bs×Value)} (h:es.toList.map (fun e=>(e.key,e.val))=m.map (fun p=>(Value.string p.1,p.2))) (s:Bs) :
  (Instr.findKey kt (.string s) es.toList).run P w=.ok (tI m s 0) w:=by
 simp [Instr.findKey,Sem.run_bind,a w,z2k _ _ _ _ h]
def yA (ok:Bool) (z:Value):Option Value->Value
 | some v=>if ok then .tuple #[v,.bool true] else v
 | none=>if ok then .tuple #[z,.bool false] else z
theorem y2h {t kt et:TypeId} {b:Nat} {es:Array MapEntry} {clock:Nat} {m:List (Bs×Value)} {z:Value} (d:Under P t (.map kt et)) (a:Under P kt .string) (e:ZeroT P et z)
  (hb:w.heap[b]? = some (.map es clock)) (h:MapOk es clock m) (s:Bs) (ok:Bool) :
  (Instr.lookup t (.map (some b)) (.string s) ok).run P w=.ok (yA ok z (jR m s)) w:=by
 have c:(getObj b).run P w=.ok (.map es clock) w:=by simp [getObj,Sem.run,hb]
 simp only [Instr.lookup,Sem.run_bind,d w,Result.andThen_ok,c,Sem.run_pure,oU a,z6j a h.eq];have:=y6c m s 0;cases N:tI m s 0 with
 | none=>rw [N] at this;simp only [Option.map_none] at this;rw [<- this];simp [e w,yA]
 | some p=>rw [N] at this;simp only [Option.map_some] at this;rw [<- this];simp [yA]
theorem yS {t kt et:TypeId} {x y:Operand} {b:Nat} {m:List (Bs×Value)} {z:Value} {s:Bs} {ok:Bool} (g:Under P t (.map kt et)) (f:Under P kt .string) (j:ZeroT P et z)
  (J:EnvR n E D a) (N:Sees Φ K w) (h:ev E x=some (.map (some b))) (i:ev E y=some (.string s)) (c:MapAt Φ b m):Ok P a (.lookup t x y ok) ty w (yA ok z (jR m s)):=fun _ _ _ _=>by
 obtain ⟨es,clock,d,e⟩:=c;simp only [execOp,J.ev h,J.ev i]
 simp [Sem.run_bind,y2h g f j (N.fz _ _ d) e]
theorem qB (i:Nat) {t kt et:TypeId} {x y:Operand} {b:Nat} {m:List (Bs×Value)} {z:Value} {s:Bs} {ok:Bool} (g:Under P t (.map kt et)) (f:Under P kt .string) (k:ZeroT P et z)
  (J:EnvR n E D a) (N:Sees Φ K w) (h:ev E x=some (.map (some b))) (j:ev E y=some (.string s)) (e:yU K i=some (.mp b m)):Ok P a (.lookup t x y ok) ty w (yA ok z (jR m s)):=fun _ _ _ _=>by
 obtain ⟨es,clock,c,d⟩:=N.own _ (yR e);simp only [execOp,J.ev h,J.ev j]
 simp [Sem.run_bind,y2h g f k c d]
theorem y9y {t kt et:TypeId} {x y:Operand} {z:Value} {s:Bs} {ok:Bool} (d:Under P t (.map kt et)) (b:Under P kt .string) (c:ZeroT P et z)
  (J:EnvR n E D a) (e:ev E x=some (.map none)) (f:ev E y=some (.string s)):Ok P a (.lookup t x y ok) ty w (yA ok z none):=fun _ _ _ _=>by
 simp only [execOp,J.ev e,J.ev f];simp only [Instr.lookup,Sem.run_bind,d w,Result.andThen_ok,Sem.run_pure,oU b,Instr.findKey,b w,Instr.findNow,c w,bind_pure_comp,Sem.run_map];cases ok <;> simp [yA,Sem.run_bind,Instr.findNow,c w]
theorem q1k {t:TypeId} (N:Mem Φ K w) (k:∀b w',Mem Φ (.mp b []::K) w'->Kn (.map (some b)) w'):Oper.eff P ⟨dst,.makeMap t none,ty,pos,aft,g⟩ a w Kn Qp:=by
 unfold Oper.eff
 have:(execOp a.eval ⟨dst,.makeMap t none,ty,pos,aft,g⟩).run P w=.ok (.value (.map (some w.heap.size))) { w with heap:=w.heap.push (.map #[] 0) }:=by
  simp [execOp,Instr.makeMap]
 rw [this];refine k _ _ (N.more rfl rfl (fun b hb=>wN hb) ⟨#[],0,by simp,by simp,by simp,by simp⟩ (by simp [Res.foot]))
theorem j2h:∀(m:List (Bs×Value)) (s:Bs) (v:Value) (j:Nat),z0y m s v=match tI m s j with | none=>m++[(s,v)] | some (i,_)=>m.set (i - j) (s,v)
 | [],_,_,_=>rfl
 | (k,x)::m,s,v,j=>by
  simp only [z0y,tI];split
  ·subst_vars;simp
  ·have:=j2h m s v (j+1)
   rw [this]
   have a:∀(m:List (Bs×Value)) (j i:Nat) (y:Value),tI m s j=some (i,y)->j<=i:=by
    intro m
    induction m with
    | nil=>intro j i y h;simp [tI] at h
    | cons p m b=>
     intro j i y h;obtain ⟨k,x⟩:=p;simp only [tI] at h;split at h
     ·simp only [Option.some.injEq,Prod.mk.injEq] at h;omega
     ·have:=b (j+1) i y h;omega
   cases N:tI m s (j+1) with
   | none=>simp
   | some p=>
    obtain ⟨i,y⟩:=p;have c:=a m (j+1) i y N;have e:i - j=(i - (j+1))+1:=by omega
    simp only [e,List.set_cons_succ]
theorem q2v:∀(m:List (Bs×Value)) (s:Bs) (j i:Nat) (y:Value),tI m s j=some (i,y)->m[i - j]? = some (s,y)/\j<=i
 | [],_,_,_,_,h=>by simp [tI] at h
 | (k,x)::m,s,j,i,y,h=>by
  simp only [tI] at h;split at h
  ·simp only [Option.some.injEq,Prod.mk.injEq] at h
   obtain ⟨rfl,rfl⟩:=h;subst_vars;simp
  ·obtain ⟨a,b⟩:=q2v m s (j+1) i y h
   have e:i - j=(i - (j+1))+1:=by omega
   exact ⟨by rw [e];simpa using a,by omega⟩
theorem uV (i:Nat) {t kt et:TypeId} {x y z:Operand} {b:Nat} {m:List (Bs×Value)} {s:Bs} {v:Value} (X:Under P t (.map kt et)) (T:Under P kt .string)
  (J:EnvR n E D a) (N:Mem Φ K w) (F:ev E x=some (.map (some b))) (Y:ev E y=some (.string s)) (Z:ev E z=some v) (R:yU K i=some (.mp b m))
  (k:∀w',Mem Φ (wA K i (.mp b (z0y m s v))) w'->Kn undef w'):Oper.eff P ⟨dst,.mapUpdate t x y z,ty,pos,aft,g⟩ a w Kn Qp:=by
 obtain ⟨es,clock,hb,f⟩:=N.own _ (yR R);have U:(getObj b).run P w=.ok (.map es clock) w:=by simp [getObj,Sem.run,hb]
 have L:b < w.heap.size:=(Array.getElem?_eq_some_iff.1 hb).1;have u:∀o,(setObj b o).run P w=.ok () { w with heap:=w.heap.setIfInBounds b o }:=fun o=>by simp only [setObj,Sem.run,hb]
 have fin:∀es' clock',MapOk es' clock' (z0y m s v)->Mem Φ (wA K i (.mp b (z0y m s v))) { w with heap:=w.heap.setIfInBounds b (.map es' clock') }:=fun es' clock' h=>
  N.upd R rfl rfl (fun c S M=>by simp only;rw [Array.getElem?_setIfInBounds_ne (fun e=>M (by simp [Res.foot,e]))]) ⟨es',clock',by simp [L],h⟩ (.inl rfl)
 unfold Oper.eff;simp only [execOp,J.ev F,J.ev Y,J.ev Z,Instr.mapUpdate,Sem.run_bind,X w,Result.andThen_ok,U,oU T,z6j T f.eq];have d:=j2h m s v 0;cases C:tI m s 0 with
 | none=>
  rw [C] at d;simp only at d;simp only [u,Result.andThen_ok,Sem.run_pure,kK];refine k _ (fin _ _ ⟨?_,?_,?_⟩)
  ·rw [d];simp [f.eq]
  ·intro e J
   simp only [Array.toList_push,List.mem_append,List.mem_singleton] at J;rcases J with J | rfl
   ·have:=f.old e J;omega
   ·simp
  ·simp only [Array.toList_push,List.map_append,List.map_cons,List.map_nil]
   rw [List.nodup_append];refine ⟨f.nodup,by simp,fun b hb c S V=>?_⟩;simp only [List.mem_singleton] at S;obtain ⟨e,J,rfl⟩:=List.mem_map.1 hb;have:=f.old e J;omega
 | some p=>
  obtain ⟨j,y⟩:=p;rw [C] at d;simp only [Nat.sub_zero] at d;obtain ⟨H,_⟩:=q2v m s 0 j y C;simp only [Nat.sub_zero] at H
  have l:es.toList[j]?.map (fun e=>(e.key,e.val))=some (Value.string s,y):=by
   rw [<- List.getElem?_map,f.eq,List.getElem?_map,H];rfl
  obtain ⟨e,A,G⟩:∃e,es[j]? = some e/\e.key=.string s:=by
   cases h:es[j]? with
   | none=>
    have h':es.toList[j]? = none:=by simpa using h
    rw [h'] at l;cases l
   | some e=>
    have h':es.toList[j]? = some e:=by simpa using h
    rw [h'] at l;simp only [Option.map_some,Option.some.injEq,Prod.mk.injEq] at l;exact ⟨e,rfl,l.1⟩
  have I:(Instr.keyThatStays (((es[j]?).map (·.key)).getD (.string s)) (.string s)).run P w=.ok (.string s) w:=by
   simp [A,G,Instr.keyThatStays,Instr.sameBits,wL]
  simp only [Sem.run_bind,I,u,Result.andThen_ok,Sem.run_pure,kK];have W:j < es.size:=(Array.getElem?_eq_some_iff.1 A).1;have B:(es.modify j fun e=>{ e with key:=Value.string s,val:=v }).toList=es.toList.modify j (fun e=>{ e with key:=Value.string s,val:=v }):=by simp
  refine k _ (fin _ _ ⟨?_,?_,?_⟩)
  ·rw [B,d]
   apply List.ext_getElem?;intro q;have hq:es.toList[q]?.map (fun e=>(e.key,e.val))=m[q]?.map (fun p=>(Value.string p.1,p.2)):=by rw [<- List.getElem?_map,f.eq,List.getElem?_map]
   simp only [List.getElem?_map,List.getElem?_modify,List.getElem?_set];by_cases r:j=q
   ·subst r
    have hml':j < m.length:=(List.getElem?_eq_some_iff.1 H).1;have h':es.toList[j]? = some e:=by simpa using A
    simp [h',hml']
   ·have hq':=hq
    simp only [Array.getElem?_toList] at hq'
    simp [r,hq']
  ·intro x F
   rw [B] at F;obtain ⟨q,hq⟩:=List.mem_iff_getElem?.1 F;rw [List.getElem?_modify] at hq;cases hz':es.toList[q]? with
   | none=>rw [hz'] at hq;simp at hq
   | some e'=>
    rw [hz'] at hq;have hb':=f.old e' (mgQ hz');have Q:=Option.some.inj hq;rw [<- Q];show (if j=q then _ else _:MapEntry).born < clock;by_cases r:j=q
    ·rw [if_pos r];exact hb'
    ·rw [if_neg r];exact hb'
  ·rw [B]
   have:(es.toList.modify j (fun e=>{ e with key:=Value.string s,val:=v })).map (·.born)=es.toList.map (·.born):=by
    apply List.ext_getElem?;intro q;simp only [List.getElem?_map,List.getElem?_modify];cases es.toList[q]? with
    | none=>simp
    | some e'=>simp;split <;> rfl
   rw [this];exact f.nodup
end Go.Sw

namespace Go.Sw
noncomputable def Ex.sz (e:Ex):Nat:=SizeOf.sizeOf e
noncomputable def Val.sz (e:Val):Nat:=SizeOf.sizeOf e
def strs (l:List Bs):List Value:=l.map .string
theorem q5g (l m:List Bs):strs (l++m)=strs l++strs m:=by simp [strs]
theorem pF (l:List Bs):(strs l).length=l.length:=by simp [strs]
theorem chunks_str {Φ:Fz}:∀{l:List Bs} {cs:List Value},Chunks (RStr Φ) 1 cs l↔cs=strs l
 | [],cs=>by simp [Chunks,strs]
 | s::l,cs=>by
  simp only [Chunks,RStr];constructor
  ·rintro ⟨c,rest,rfl,_,rfl,a⟩
   have:=chunks_str.1 a;subst this;rfl
  ·rintro rfl
   exact ⟨[.string s],strs l,rfl,rfl,rfl,chunks_str.2 rfl⟩
theorem SliceOf.strs {Φ:Fz} {v:Value} {l:List Bs}:SliceOf RStr Φ 1 v l↔Row Φ v 1 (strs l) :=
 ⟨fun ⟨_,a,b⟩=>chunks_str.1 b▸a,fun h=>⟨_,h,chunks_str.2 rfl⟩⟩
theorem pQ {P:Program} {t e:TypeId} {len k:Nat} {z:Value} {parts:List (Nat×Value)} {cs:List Value} (d:Under P t (.slice e)) (O:SizeT P e k) (f:ZeroT P e z) (c:Nat.ble (len * k) 16777216=true) (a:len * k≠0)
  (b:Instr.fill (fun i=>some (i * k,k)) ((List.range (len * k)).map (fun x=>z.cells[x % z.cells.size]!)).toArray parts=some cs.toArray):built P t parts len cs e:=fun w=>by
 have hn':¬len * k > 2 ^ 24:=by
  have:len * k<=16777216:=by simpa using c
  omega
 have hi:(Array.range (len * k)).map (z.cells[· % z.cells.size]!)=((List.range (len * k)).map (fun x=>z.cells[x % z.cells.size]!)).toArray:=by
  apply Array.ext'
  simp
 simp only [Instr.buildSlice,Sem.run_bind,d w,O w,Result.andThen_ok,if_neg hn',if_neg a,f w,Sem.run_pure,hi,b,newRow,run_newObj]
 simp [ob]
theorem mA {P:Program} {t e:TypeId} {k:Nat} (b:Under P t (.slice e)) (O:SizeT P e k):built P t [] 0 [] e:=fun w=>by
 simp only [Instr.buildSlice,Sem.run_bind,b w,O w,Result.andThen_ok];have a:Array.range 0=(#[]:Array Nat):=by simp
 simp [Instr.fill,newRow,ob,a]
theorem z8s {t:Bs} {i:Nat} (h:i < t.size):∃c,t[i]? = some c:=⟨t[i],by simp [h]⟩
def yW (t:Bs) (i:Nat):Nat:=match t[i]? with | some c=>c.toNat | none=>0
theorem sT {t:Bs} {i:Nat} {c:UInt8} (h:t[i]? = some c):yW t i=c.toNat:=by simp [yW,h]
theorem z6a {t:Bs} {i:Nat} (h:¬i < t.size):yW t i=0:=by
 have:t[i]? = none:=by simp;omega
 simp [yW,this]
def nI (c:Nat):Bool:=decide (97<=c)&&decide (c<=122)
def dX (c:Nat):Bool:=decide (65<=c)&&decide (c<=90)
def yT (c:Nat):Bool:=decide (48<=c)&&decide (c<=57)
def qX (c:Nat):Bool:=nI c || dX c || yT c || decide (c=95)
def jU (c:Nat):Bool:=decide (c=32) || decide (c=9) || decide (c=10) || decide (c=13)
def kD (s p:Bs):Bool:=decide (p.size<=s.size)&&decide (s.extract 0 p.size=p)
def qH (p:Nat->Bool) (t:Bs):Nat->Nat->Nat
 | 0,_=>0
 | f+1,i=>if i < t.size/\p (yW t i)=true then qH p t f (i+1)+1 else 0
theorem y6s (p:Nat->Bool) (t:Bs):∀(f g i:Nat),t.size<=i+f->t.size<=i+g->qH p t f i=qH p t g i
 | 0,0,_,_,_=>rfl
 | 0,g+1,i,h,_=>by simp only [qH];rw [if_neg (by omega)]
 | f+1,0,i,_,h=>by simp only [qH];rw [if_neg (by omega)]
 | f+1,g+1,i,h,h'=>by
  simp only [qH];split
  ·rw [y6s p t f g (i+1) (by omega) (by omega)]
  ·rfl
theorem uM (p:Nat->Bool) (t:Bs) (i:Nat):qH p t t.size i=if i < t.size/\p (yW t i)=true then qH p t t.size (i+1)+1 else 0:=by
 rw [y6s p t t.size (t.size+1) i (by omega) (by omega)];simp only [qH]
theorem wC (p:Nat->Bool) (t:Bs):∀(f i:Nat),i<=t.size->i+qH p t f i<=t.size
 | 0,i,h=>by simpa [qH] using h
 | f+1,i,h=>by
  simp only [qH];split
  ·rename_i a
   have:=wC p t f (i+1) (by omega);omega
  ·omega
end Go.Sw

namespace Go.Sw
variable {P:Program} {n:Nat} {E:List (Nat×Value)} {D:List Deferred} {a:Act} {Φ Ψ:Fz} {K:List Res} {w:World}
variable {Kn:Value->World->Prop} {Qp:List PanicEntry->World->Prop} {dst:Option Tmp} {ty:TypeId} {pos:String} {aft:Array Edge} {g:Option (Nat×Bool)}
def Out {ε α:Type} (r:Except ε α) (A:α->Prop) (B:ε->Prop):Prop:=match r with | .ok x=>A x | .error c=>B c
theorem cD {α ε:Type} {f:FuncId} {xs:Array Operand} {ts:Array TypeId} {vs:List Value} {r:Except ε α} {X:α->Value} {C:ε->List PanicEntry} {d i:Fz} {KO:α->List Res} {KE:List Res}
  (J:EnvR n E D a) (o:evs E xs.toList=some vs) (m:∀args w,(callFunc f args).run P w=.ok (.enter f args) w)
  (l:Calls P f vs.toArray w (fun e w'=>Out r (fun x=>e=.returned (X x)/\Mem d (KO x) w') (fun c=>e=.panicked (C c)/\Mem i KE w')))
  (k:∀x w',r=.ok x->Mem d (KO x) w'->Kn (X x) w') (kp:∀c w',r=.error c->Mem i KE w'->Qp (C c) w') :
  Oper.eff P ⟨dst,.call { callee:=.value (.func f),args:=xs,argTypes:=ts },ty,pos,aft,g⟩ a w Kn Qp:=by
 refine mQ J o m l (fun v w' h=>?_) (fun c w' h=>?_) (fun w' h=>?_)
 ·cases r with
  | ok x=>obtain ⟨b,j⟩:=h;cases b;exact k _ _ rfl j
  | error c=>obtain ⟨b,_⟩:=h;cases b
 ·cases r with
  | ok x=>obtain ⟨b,_⟩:=h;cases b
  | error c=>obtain ⟨b,j⟩:=h;cases b;exact kp _ _ rfl j
 ·cases r with
  | ok x=>obtain ⟨b,_⟩:=h;cases b
  | error c=>obtain ⟨b,_⟩:=h;cases b
theorem jT {md:Region.Mode} {kd:List Nat} {o:Oper} {B:Prop} (h:dK md kd o=false) (hl:dK md kd o=true):B:=by rw [h] at hl;cases hl
theorem xH {t:TypeId} {v:Value} (w:World):(Instr.panic (.iface t v)).run P w=.halt (.panic (.iface t v)) w:=rfl
theorem retcA {fn:Func} {R:Ending->World->Prop} {t T b k i:Nat} {cs:List Value} {T0:TypeId} (J:EnvR n E [] a) (N:Sees Φ K w) (o:fn.results=#[.cell t T]) (p:get E t=some (.pointer (some ⟨b,0,none⟩)))
  (m:yU K i=some (.blk b (ob cs T0))) (f:AggT P T) (e:SizeT P T k) (hl:cs.length=k) (h:R (.returned (.agg cs.toArray)) w):bodyPost P fn R .ret a w:=by
 refine ⟨J.defs,.agg cs.toArray,?_,h⟩
 have g:∀j v,cs[j]? = some v->w.cell? ((⟨b,0,none⟩:Addr).add j)=some v:=fun j v l=>by
  have c:=N.cell m j;rw [tJ,l] at c;unfold Addr.add;split
  ·subst_vars;exact c
  ·simpa using c
 have d:=run_loadCells_list (P:=P) (w:=w) ⟨b,0,none⟩ cs g;rw [hl] at d
 simp [results,o,Array.getD_eq_getD_getElem?,J.env t _ p,asAddr,loadVar,f w,e w,d]
theorem zT {fn:Func} {R:Ending->World->Prop} {c:List PanicEntry} (b:a.defers=[]) (h:R (.panicked c) w):bodyPost P fn R (.panic c) a w:=⟨b,h⟩
def kO (t:Bs) (org:Nat):Nat->Nat->Int->Except (Nat×Int) Nat
 | 0,_,_=>.error (org,12)
 | f+1,i,o=>
  if t.size<=i then .error (org,12) else
  if kD (t.extract i t.size) (⟨#[40,42]⟩:Bs) then (if 100<=o then .error (i,6) else kO t org f (i+2) (o+1)) else
  if kD (t.extract i t.size) (⟨#[42,41]⟩:Bs) then (if o - 1=0 then .ok (i+2) else kO t org f (i+2) (o - 1)) else
  kO t org f (i+1) o
theorem jY {t p:Bs} {i:Nat} (h:kD (t.extract i t.size) p=true):p.size<=t.size - i:=by
 simp only [kD,baQ,decide_eq_true_eq,ByteArray.size_extract] at h;have:=h.1;simp only [Nat.min_self] at this;exact this
theorem nM (t:Bs) (org:Nat):∀(f g i:Nat) (o:Int),t.size < i+f->t.size < i+g->kO t org f i o=kO t org g i o
 | 0,0,_,_,_,_=>rfl
 | 0,g+1,i,o,h,_=>by simp only [kO];rw [if_pos (by omega)]
 | f+1,0,i,o,_,h=>by simp only [kO];rw [if_pos (by omega)]
 | f+1,g+1,i,o,h,h'=>by
  simp only [kO];rw [nM t org f g (i+2) (o+1) (by omega) (by omega),nM t org f g (i+2) (o - 1) (by omega) (by omega),nM t org f g (i+1) o (by omega) (by omega)]
def vH (t:Bs) (org i:Nat) (o:Int):Except (Nat×Int) Nat:=kO t org (t.size+1) i o
theorem mB (t:Bs) (org i:Nat) (o:Int):vH t org i o =
  if t.size<=i then .error (org,12) else
  if kD (t.extract i t.size) (⟨#[40,42]⟩:Bs) then (if 100<=o then .error (i,6) else vH t org (i+2) (o+1)) else
  if kD (t.extract i t.size) (⟨#[42,41]⟩:Bs) then (if o - 1=0 then .ok (i+2) else vH t org (i+2) (o - 1)) else
  vH t org (i+1) o:=by
 unfold vH;rw [nM t org (t.size+1) (t.size+2) i o (by omega) (by omega)];simp only [kO]
theorem wW (t:Bs) (org:Nat):∀(f i q:Nat) (o:Int),kO t org f i o=.ok q->i < q/\q<=t.size
 | 0,_,_,_,h=>by simp [kO] at h
 | f+1,i,q,o,h=>by
  simp only [kO] at h;split at h
  ·cases h
  ·split at h
   ·split at h
    ·cases h
    ·have:=wW t org f _ _ _ h;omega
   ·split at h
    ·rename_i O
     have a:=jY O;have:(⟨#[42,41]⟩:Bs).size=2:=rfl;split at h
     ·simp only [Except.ok.injEq] at h;omega
     ·have:=wW t org f _ _ _ h;omega
    ·have:=wW t org f _ _ _ h;omega
def gD (c:Nat×Int):List PanicEntry:=[{ v:=.iface 180 (.agg #[.int .i64 c.1,.int .i64 c.2]),recovered:=false }]
theorem wM {α β ε:Type} {f:FuncId} {xs:Array Operand} {ts:Array TypeId} {vs:List Value} {r:Except ε α} {X:α->β->Value} {C:ε->List PanicEntry} {F1:α->β->Fz} {d:Fz} {KO:α->β->List Res} {KE:List Res} {G:α->β->Prop}
  (J:EnvR n E D a) (o:evs E xs.toList=some vs) (m:∀args w,(callFunc f args).run P w=.ok (.enter f args) w)
  (l:Calls P f vs.toArray w (fun e w'=>Out r (fun x=>∃y,e=.returned (X x y)/\G x y/\Mem (F1 x y) (KO x y) w') (fun c=>e=.panicked (C c)/\Mem d KE w')))
  (k:∀x y w',r=.ok x->G x y->Mem (F1 x y) (KO x y) w'->Kn (X x y) w') (kp:∀c w',r=.error c->Mem d KE w'->Qp (C c) w') :
  Oper.eff P ⟨dst,.call { callee:=.value (.func f),args:=xs,argTypes:=ts },ty,pos,aft,g⟩ a w Kn Qp:=by
 refine mQ J o m l (fun v w' h=>?_) (fun c w' h=>?_) (fun w' h=>?_)
 ·cases r with
  | ok x=>obtain ⟨y,b,i,j⟩:=h;cases b;exact k _ _ _ rfl i j
  | error c=>obtain ⟨b,_⟩:=h;cases b
 ·cases r with
  | ok x=>obtain ⟨y,b,_⟩:=h;cases b
  | error c=>obtain ⟨b,i⟩:=h;cases b;exact kp _ _ rfl i
 ·cases r with
  | ok x=>obtain ⟨y,b,_⟩:=h;cases b
  | error c=>obtain ⟨b,_⟩:=h;cases b
theorem uF {β:Type} {f:FuncId} {xs:Array Operand} {ts:Array TypeId} {vs:List Value} {X:β->Value} {F1:β->Fz} {KO:β->List Res} {G:β->Prop}
  (J:EnvR n E D a) (m:evs E xs.toList=some vs) (l:∀args w,(callFunc f args).run P w=.ok (.enter f args) w)
  (j:Calls P f vs.toArray w (fun e w'=>∃y,e=.returned (X y)/\G y/\Mem (F1 y) (KO y) w'))
  (k:∀y w',G y->Mem (F1 y) (KO y) w'->Kn (X y) w') :
  Oper.eff P ⟨dst,.call { callee:=.value (.func f),args:=xs,argTypes:=ts },ty,pos,aft,g⟩ a w Kn Qp :=
 mQ J m l j (fun v w' h=>by obtain ⟨y,b,d,i⟩:=h;cases b;exact k _ _ d i) (fun c w' h=>by obtain ⟨y,b,_⟩:=h;cases b) (fun w' h=>by obtain ⟨y,b,_⟩:=h;cases b)
def z3i (t:Bs):Nat->Nat->Except (Nat×Int) Nat
 | 0,i=>.ok i
 | f+1,i=>
  if kD (t.extract (i+qH jU t t.size i) t.size) (⟨#[40,42]⟩:Bs)=true then
   match vH t (i+qH jU t t.size i) (i+qH jU t t.size i) 0 with
   | .error c=>.error c
   | .ok q=>z3i t f q
  else .ok (i+qH jU t t.size i)
theorem y1u (t:Bs):∀(f g i:Nat),i<=t.size->t.size < i+f->t.size < i+g->z3i t f i=z3i t g i
 | 0,_,i,a,h,_=>by omega
 | _+1,0,i,a,_,h=>by omega
 | f+1,g+1,i,a,h,h'=>by
  simp only [z3i];split
  ·cases b:vH t (i+qH jU t t.size i) (i+qH jU t t.size i) 0 with
   | error c=>rfl
   | ok q=>
    have:=wW _ _ _ _ _ _ b;exact y1u t f g q this.2 (by omega) (by omega)
  ·rfl
def cR (t:Bs) (i:Nat):Except (Nat×Int) Nat:=z3i t (t.size+1) i
theorem z3h (t:Bs) (i:Nat) (h:i<=t.size):cR t i =
  if kD (t.extract (i+qH jU t t.size i) t.size) (⟨#[40,42]⟩:Bs)=true then
   match vH t (i+qH jU t t.size i) (i+qH jU t t.size i) 0 with
   | .error c=>.error c
   | .ok q=>cR t q
  else .ok (i+qH jU t t.size i):=by
 unfold cR;rw [y1u t (t.size+1) (t.size+2) i h (by omega) (by omega)];simp only [z3i]
end Go.Sw

namespace Go.Sw
def kw (l:List UInt8):Bs:=⟨l.toArray⟩
def wordsL:List Bs:=[kw [97,110,100],kw [99,97,115,101],kw [100,97,116,97],kw [101,108,115,101],kw [101,110,100],kw [102,110],kw [102,117,110],kw [105,102],kw [105,110],kw [105,110,112,117,116],kw [108,101,116],kw [111,102],kw [111,117,116,112,117,116],kw [116,104,101,110],kw [118,97,108]]
def wordsM:List (Bs×Value):=wordsL.map (fun s=>(s,.int .i64 5))
theorem z1p {s:Bs} {v:Value} (h:jR wordsM s=some v):v=.int .i64 ((5:Nat):Int):=by
 have:∀(l:List Bs),jR (l.map (fun s=>(s,Value.int .i64 5))) s=some v->v=.int .i64 ((5:Nat):Int):=by
  intro l
  induction l with
  | nil=>intro h;simp [jR] at h
  | cons x l a=>
   intro h;simp only [List.map_cons,jR] at h;split at h
   ·simp only [Option.some.injEq] at h;rw [<- h];rfl
   ·exact a h
 exact this _ h
def y0a (s:Bs):Bool:=(jR wordsM s).isSome
structure Tok where
 kind:Int
 num:Int
 text:Bs
 org:Nat
def y2t (k:Tok):Value:=.agg #[.int .i64 k.kind,.int .i64 k.num,.string k.text,.int .i64 k.org]
def vT (t:Bs) (pos:Nat) (kind:Int) (n:Nat):Except (Nat×Int) Tok:=if 24 < n then .error (pos,2) else .ok ⟨kind,0,t.extract pos (pos+n),pos⟩
def jM (t:Bs) (pos:Nat):Nat :=
 if yW t (pos+qH qX t t.size pos)=39 then
  (if 0 < qH yT t t.size (pos+(qH qX t t.size pos+1)) then qH qX t t.size pos+(1+qH yT t t.size (pos+(qH qX t t.size pos+1))) else qH qX t t.size pos)
 else qH qX t t.size pos
def kU (t:Bs) (pos:Nat) (kind:Int):Except (Nat×Int) Tok :=
 if 24 < jM t pos then .error (pos,2)
 else .ok ⟨if y0a (t.extract pos (pos+jM t pos)) then 5 else kind,0,t.extract pos (pos+jM t pos),pos⟩
theorem y0j {t:Bs} {pos n:Nat} {kd:Int} {q:Tok} (hq:vT t pos kd n=.ok q):¬24 < n/\q=⟨kd,0,t.extract pos (pos+n),pos⟩:=by
 unfold vT at hq;split at hq
 ·cases hq
 ·rename_i h;simp only [Except.ok.injEq] at hq;exact ⟨h,hq.symm⟩
theorem j6j {t:Bs} {pos n:Nat} {kd:Int} {c:Nat×Int} (hq:vT t pos kd n=.error c):24 < n/\c=(pos,2):=by
 unfold vT at hq;split at hq
 ·rename_i h;simp only [Except.error.injEq] at hq;exact ⟨h,hq.symm⟩
 ·cases hq
theorem gW {t:Bs} {pos n:Nat} {kd:Int} {q:Tok} (hq:vT t pos kd n=.ok q) (a:jR wordsM q.text=none) (c:jM t pos=n):kU t pos kd=.ok q:=by
 obtain ⟨b,rfl⟩:=y0j hq;simp only at a;unfold kU;rw [c,if_neg b]
 simp [y0a,a]
theorem gX {t:Bs} {pos n:Nat} {kd:Int} {q:Tok} {v:Value} (hq:vT t pos kd n=.ok q) (a:jR wordsM q.text=some v) (c:jM t pos=n):kU t pos kd=.ok ⟨5,q.num,q.text,q.org⟩:=by
 obtain ⟨b,rfl⟩:=y0j hq;simp only at a;unfold kU;rw [c,if_neg b]
 simp [y0a,a]
theorem y0k {t:Bs} {pos n:Nat} {kd:Int} {c:Nat×Int} (hq:vT t pos kd n=.error c) (b:jM t pos=n):kU t pos kd=.error c:=by
 obtain ⟨a,rfl⟩:=j6j hq;unfold kU;rw [b,if_pos a]
theorem uC {t:Bs} {i:Nat} (h:yW t i≠0):i < t.size:=by
 by_cases hi:i < t.size
 ·exact hi
 ·exact absurd (z6a hi) h
theorem q8i (t:Bs) (pos:Nat) (h:pos<=t.size):pos+jM t pos<=t.size:=by
 have b:=wC qX t t.size pos h;unfold jM;split
 ·rename_i a
  have c:=uC (t:=t) (i:=pos+qH qX t t.size pos) (by omega);have d:=wC yT t t.size (pos+(qH qX t t.size pos+1)) (by omega);split
  ·omega
  ·omega
 ·omega
end Go.Sw

namespace Go.Sw
open Go.Proofs
def Tabs (Φ:Fz):Prop:=∀w,Sees Φ [] w->Lib.TabIs Tryz.prog w "internal/strconv.uint64pow10" .u64 Lib.pow10Tab
theorem Tabs.mono {Φ Ψ:Fz} (h:Tabs Φ) (hl:Φ.Le Ψ):Tabs Ψ:=fun w a=>h w ⟨fun b o hb=>a.fz b o (hl.obj b o hb),by simp⟩
def ErrAt (Φ:Fz) (g:Nat):Prop:=∃v,At Φ ⟨g,0,none⟩ [v]/\(v=.nilIface∨∃t p,v=.iface t p)
theorem ErrAt.mono {Φ Ψ:Fz} {g:Nat} (h:ErrAt Φ g) (hl:Φ.Le Ψ):ErrAt Ψ g:=let ⟨v,a,b⟩:=h;⟨v,a.mono hl,b⟩
structure Glob (Φ:Fz):Prop where
 maxLen:∃m,At Φ ⟨0,0,none⟩ [.int .i64 m]
 tabs:Tabs Φ
 err4:ErrAt Φ 2
 err5:ErrAt Φ 3
theorem Glob.mono {Φ Ψ:Fz} (h:Glob Φ) (hl:Φ.Le Ψ):Glob Ψ:=⟨let ⟨m,N⟩:=h.maxLen;⟨m,N.mono hl⟩,h.tabs.mono hl,h.err4.mono hl,h.err5.mono hl⟩
def has (l:List Bs) (s:Bs):Bool:=l.any (fun x=>decide (x=s))
end Go.Sw

namespace Go.Sw
section
variable {α:Type}
def zK:List (Bs×α)->Bs->Option α
 | [],_=>none
 | (k,x)::l,s=>if s=k then some x else zK l s
def qT:List (Bs×α)->Bs->α->List (Bs×α)
 | [],s,x=>[(s,x)]
 | (k,y)::l,s,x=>if s=k then (k,x)::l else (k,y)::qT l s x
variable {R R':Value->α->Prop} {m:List (Bs×Value)} {l:List (Bs×α)}
end
structure Maker where
 data:Bs
 con:Con
structure Table where
 core:Core
 datas:List (Bs×Data)
 cons:List (Bs×Maker)
 funs:List (Bs×Fun)
 inputs:List (Bs×Bs)
end Go.Sw

namespace Go.Sw
open Go.Proofs.Tryz
open Go.Proofs
theorem mixed:prog.follows .mixedOrders=true:=by kernel_rfl
theorem x0r:zH prog 209 0 0:=zD runUnderlying209 rfl sizeOf9 (by decide) rfl
theorem x0s:zH prog 209 1 1:=zD runUnderlying209 rfl sizeOf3 (by decide) rfl
theorem x0j:zH prog 180 1 1:=zD runUnderlying180 rfl sizeOf28 (by decide) rfl
theorem x0p:zH prog 204 0 0:=zD runUnderlying204 rfl sizeOf3 (by decide) rfl
theorem x0q:zH prog 204 2 2:=zD runUnderlying204 rfl sizeOf9 (by decide) rfl
theorem x0t:zH prog 232 0 0:=zD runUnderlying232 rfl sizeOf9 (by decide) rfl
theorem x0u:zH prog 232 1 1:=zD runUnderlying232 rfl sizeOf3 (by decide) rfl
theorem x0v:zH prog 235 0 0:=zD runUnderlying235 rfl sizeOf232 (by decide) rfl
theorem x0w:zH prog 235 1 2:=zD runUnderlying235 rfl sizeOf98 (by decide) rfl
theorem x0x:zH prog 235 2 3:=zD runUnderlying235 rfl sizeOf233 (by decide) rfl
set_option maxRecDepth 20000 in
theorem j2t:RowT prog 23 9 1 16:=⟨underlying23,⟨_,_,Tryz.type9,rfl,rfl,rfl,rfl⟩,by decide,by decide⟩
set_option maxRecDepth 20000 in
theorem dQ:RowT prog 34 3 1 8:=⟨underlying34,⟨_,_,Tryz.type3,rfl,rfl,rfl,rfl⟩,by decide,by decide⟩
set_option maxRecDepth 20000 in
theorem rt_233:RowT prog 233 260 2 16:=⟨underlying233,⟨_,_,Tryz.type260,rfl,rfl,rfl,rfl⟩,by decide,by decide⟩
end Go.Sw

namespace Go.Sw
open Go.Proofs
end Go.Sw

namespace Go.Sw
open Go.Proofs.Tryz
open Go.Proofs
set_option maxRecDepth 20000
class ScT (t:TypeId):Prop where h:Scalar prog t
class AgT (t:TypeId):Prop where h:AggT prog t
class SzT (t:TypeId) (k:outParam Nat):Prop where h:SizeT prog t k
class SlT (t:TypeId) (e:outParam TypeId):Prop where h:Under prog t (.slice e)
class StT (t:TypeId):Prop where h:Under prog t .string
class FoT (s:TypeId) (f:Nat) (o:outParam Nat):Prop where h:zH prog s f o
instance:ScT 3:=⟨isAgg3⟩
instance:ScT 9:=⟨isAgg9⟩
instance:ScT 23:=⟨isAgg23⟩
instance:ScT 28:=⟨isAgg28⟩
instance:AgT 209:=⟨isAgg209⟩
instance:ScT 34:=⟨isAgg34⟩
instance:ScT 178:=⟨isAgg178⟩
instance:AgT 204:=⟨isAgg204⟩
instance:ScT 98:=⟨isAgg98⟩
instance:ScT 233:=⟨isAgg233⟩
instance:SzT 3 1:=⟨sizeOf3⟩
instance:SzT 9 1:=⟨sizeOf9⟩
instance:SzT 23 1:=⟨sizeOf23⟩
instance:SzT 209 3:=⟨sizeOf209⟩
instance:SzT 180 2:=⟨sizeOf180⟩
instance:SzT 204 4:=⟨sizeOf204⟩
instance:SzT 98 1:=⟨sizeOf98⟩
instance:SzT 233 1:=⟨sizeOf233⟩
instance:SzT 260 2:=⟨sizeOf260⟩
instance:FoT 209 0 0:=⟨x0r⟩
instance:FoT 209 1 1:=⟨x0s⟩
instance:FoT 180 1 1:=⟨x0j⟩
instance:FoT 204 0 0:=⟨x0p⟩
instance:FoT 204 2 2:=⟨x0q⟩
instance:FoT 232 0 0:=⟨x0t⟩
instance:FoT 232 1 1:=⟨x0u⟩
instance:FoT 235 0 0:=⟨x0v⟩
instance:FoT 235 1 2:=⟨x0w⟩
instance:FoT 235 2 3:=⟨x0x⟩
instance:StT 9:=⟨runUnderlying9⟩
instance:SlT 23 9:=⟨runUnderlying23⟩
instance:SlT 34 3:=⟨runUnderlying34⟩
instance:SlT 130 204:=⟨runUnderlying130⟩
instance:SlT 233 260:=⟨runUnderlying233⟩
section
variable {P:Program} {n:Nat} {E:List (Nat×Value)} {D:List Deferred} {a:Act} {w:World} {ty:TypeId} {Φ:Fz} {K:List Res}
structure OkS (a:Act) (op:Op) (ty:TypeId) (w:World) (v:Value):Prop where
 h:Ok prog a op ty w v
theorem s_move {x:Operand} {v:Value} (J:EnvR n E D a) (b:ev E x=some v):OkS a (.move x) ty w v:=⟨yZ J b⟩
theorem x3z {x:Operand} {v:Value} (J:EnvR n E D a) (b:ev E x=some v):OkS a (.assign x) ty w v:=⟨jE J b⟩
theorem s_pick {c x y:Operand} {v:Value} {b:Bool} (J:EnvR n E D a) (d:ev E c=some (.bool b)) (e:ev E (if b then x else y)=some v):OkS a (.pick c x y) ty w v:=⟨z5r J d e⟩
theorem j7d {x:Operand} {i:Nat} {vs:List Value} {v:Value} (J:EnvR n E D a) (b:ev E x=some (.tuple vs.toArray)) (hi:vs[i]? = some v):OkS a (.extract x i) ty w v:=⟨xO J b hi⟩
theorem s_not {x:Operand} {t:TypeId} {b:Bool} (J:EnvR n E D a) (c:ev E x=some (.bool b)):OkS a (.unOp .not t x) ty w (.bool (!b)):=⟨z6v J c⟩
theorem q9l {x:Operand} {p:Addr} (J:EnvR n E D a) (b:ev E x=some (.pointer (some p))):OkS a (.nilCheck x) ty w (.pointer (some p)):=⟨z1r J b⟩
structure FaV (s f:Nat) (u v:Value):Prop where
 h:∀{n:Nat} {E:List (Nat×Value)} {D:List Deferred} {a:Act} {x:Operand} {ty:TypeId} {w:World},EnvR n E D a->ev E x=some u->Ok prog a (.fieldAddr s x f) ty w v
theorem s_fav {x:Operand} {s f:Nat} {u v:Value} (J:EnvR n E D a) (b:ev E x=some u) (h:FaV s f u v):OkS a (.fieldAddr s x f) ty w v:=⟨h.h J b⟩
theorem f_own {s f off b o z:Nat} [FoT s f off] (c:o+off=z):FaV s f (.pointer (some ⟨b,o,none⟩)) (.pointer (some ⟨b,z,none⟩)):=⟨fun J a=>qP J a FoT.h c⟩
theorem f_at {s f off j z:Nat} {p:Addr} {cs:List Value} [FoT s f off] (a:At Φ p cs) (c:j+off=z):FaV s f (.pointer (some (p.add j))) (.pointer (some (p.add z))):=⟨fun J b=>y3m J b a FoT.h c⟩
theorem f_p {s f off:Nat} {p:Addr} [FoT s f off]:FaV s f (.pointer (some p)) (.pointer (some (p.add off))):=⟨fun J a=>aG J a FoT.h⟩
structure LdV (T:TypeId) (w:World) (u v:Value):Prop where
 h:∀{n:Nat} {E:List (Nat×Value)} {D:List Deferred} {a:Act} {x:Operand} {ty:TypeId},EnvR n E D a->ev E x=some u->Ok prog a (.load T x) ty w v
theorem s_ldv {x:Operand} {T:TypeId} {u v:Value} (J:EnvR n E D a) (b:ev E x=some u) (h:LdV T w u v):OkS a (.load T x) ty w v:=⟨h.h J b⟩
theorem o_own {T:TypeId} {b off:Nat} {v:Value} (h:LdV T w (.pointer (some ⟨b,off,none⟩)) v):LdV T w (.pointer (some ⟨b,off,none⟩)) v:=h
theorem o_sc {T:TypeId} {u v:Value} [ScT T] (h:LdV T w u v):LdV T w u v:=h
theorem o_ag {T:TypeId} {u v:Value} [AgT T] (h:LdV T w u v):LdV T w u v:=h
theorem z3y (i:Nat) {T:TypeId} {b off:Nat} {cs:List Value} {t:TypeId} {v:Value} [ScT T] (N:Sees Φ K w) (a:yU K i=some (.blk b (ob cs t))) (c:nth cs off=some v):LdV T w (.pointer (some ⟨b,off,none⟩)) v:=⟨fun J d=>yH i J N d a c ScT.h⟩
theorem sB (i:Nat) {T:TypeId} {b off k:Nat} {cs vs:List Value} {t:TypeId} [AgT T] [SzT T k] (N:Sees Φ K w) (a:yU K i=some (.blk b (ob cs t))) (c:z0d (z0b cs off) k=vs) (hl:vs.length=k):LdV T w (.pointer (some ⟨b,off,none⟩)) (.agg vs.toArray):=⟨fun J d=>qG i J N d a AgT.h SzT.h c hl⟩
theorem v_at {T:TypeId} {p:Addr} {cs:List Value} {v:Value} {j:Nat} [ScT T] (N:Sees Φ K w) (a:At Φ p cs) (b:nth cs j=some v):LdV T w (.pointer (some (p.add j))) v:=⟨fun J c=>uT j J N c a b ScT.h⟩
theorem v_at0 {T:TypeId} {p:Addr} {cs:List Value} {v:Value} [ScT T] (N:Sees Φ K w) (a:At Φ p cs) (b:nth cs 0=some v):LdV T w (.pointer (some p)) v:=⟨fun J c=>pZ J N c a b ScT.h⟩
theorem v_atA {T:TypeId} {p:Addr} {k:Nat} {cs:List Value} [AgT T] [SzT T k] (N:Sees Φ K w) (a:At Φ p cs) (hl:cs.length=k):LdV T w (.pointer (some p)) (.agg cs.toArray):=⟨fun J b=>tY J N b a AgT.h SzT.h hl⟩
theorem s_len {x:Operand} {t e:TypeId} {p:Option Addr} {len cap:Nat} [SlT t e] (J:EnvR n E D a) (b:ev E x=some (.slice p len cap)):OkS a (.call { callee:=.builtin .len,args:=#[x],argTypes:=#[t] }) ty w (.int .i64 (len:Int)):=⟨aH J b SlT.h⟩
theorem s_lens {x:Operand} {t:TypeId} {s:ByteArray} [StT t] (J:EnvR n E D a) (b:ev E x=some (.string s)):OkS a (.call { callee:=.builtin .len,args:=#[x],argTypes:=#[t] }) ty w (.int .i64 (s.size:Int)):=⟨j7q J b StT.h⟩
theorem s_index {x ix:Operand} {t e:TypeId} {kk:IntKind} {p:Addr} {len cap k i:Nat} [SlT t e] [SzT e k] (J:EnvR n E D a) (b:ev E x=some (.slice (some p) len cap)) (hi:ev E ix=some (.int kk (i:Int))) (hb:i < len):OkS a (.indexAddr t x ix) ty w (.pointer (some (p.add (i * k)))):=⟨xT i J b hi SlT.h SzT.h hb⟩
theorem s_inc {t t':TypeId} {x y:Operand} {i:Nat} (J:EnvR n E D a) (b:ev E x=some (.int .i64 (i:Int))) (c:ev E y=some (.int .i64 ((1:Nat):Int))) (d:i+1<=9223372036854775807):OkS a (.binOp .add t x y t') ty w (.int .i64 ((i+1:Nat):Int)):=⟨xJ J b c d⟩
theorem s_func {fn:Fn} {fs cs:Array Operand} {vfs vcs:List Value} (J:EnvR n E D a) (c:evs E fs.toList=some vfs) (b:evs E cs.toList=some vcs):OkS a (.makeFunc fn fs cs) ty w (.func fn vfs.toArray vcs.toArray):=⟨z1q J c b⟩
section
variable {t t':TypeId} {x y:Operand} {k:IntKind}
theorem s_lssNt {i j:Nat} (J:EnvR n E D a) (b:ev E x=some (.int k ((i:Nat):Int))) (c:ev E y=some (.int k ((j:Nat):Int))) (h:i < j):OkS a (.binOp .lss t x y t') ty w (.bool true):=⟨sK true J b c (decide_eq_true (Int.ofNat_lt.2 h))⟩
theorem s_lssNf {i j:Nat} (J:EnvR n E D a) (c:ev E x=some (.int k ((i:Nat):Int))) (d:ev E y=some (.int k ((j:Nat):Int))) (h:¬i < j):OkS a (.binOp .lss t x y t') ty w (.bool false):=⟨sK false J c d (decide_eq_false (fun b=>h (Int.ofNat_lt.1 b)))⟩
theorem s_lssIt {i j:Int} (J:EnvR n E D a) (b:ev E x=some (.int k i)) (c:ev E y=some (.int k j)) (h:i < j):OkS a (.binOp .lss t x y t') ty w (.bool true):=⟨sK true J b c (decide_eq_true (h))⟩
theorem s_lssIf {i j:Int} (J:EnvR n E D a) (b:ev E x=some (.int k i)) (c:ev E y=some (.int k j)) (h:¬i < j):OkS a (.binOp .lss t x y t') ty w (.bool false):=⟨sK false J b c (decide_eq_false (h))⟩
theorem s_gtrNt {i j:Nat} (J:EnvR n E D a) (b:ev E x=some (.int k ((i:Nat):Int))) (c:ev E y=some (.int k ((j:Nat):Int))) (h:j < i):OkS a (.binOp .gtr t x y t') ty w (.bool true):=⟨y3n true J b c (decide_eq_true (Int.ofNat_lt.2 h))⟩
theorem s_gtrNf {i j:Nat} (J:EnvR n E D a) (c:ev E x=some (.int k ((i:Nat):Int))) (d:ev E y=some (.int k ((j:Nat):Int))) (h:¬j < i):OkS a (.binOp .gtr t x y t') ty w (.bool false):=⟨y3n false J c d (decide_eq_false (fun b=>h (Int.ofNat_lt.1 b)))⟩
theorem s_gtrIt {i j:Int} (J:EnvR n E D a) (b:ev E x=some (.int k i)) (c:ev E y=some (.int k j)) (h:j < i):OkS a (.binOp .gtr t x y t') ty w (.bool true):=⟨y3n true J b c (decide_eq_true (h))⟩
theorem s_gtrIf {i j:Int} (J:EnvR n E D a) (b:ev E x=some (.int k i)) (c:ev E y=some (.int k j)) (h:¬j < i):OkS a (.binOp .gtr t x y t') ty w (.bool false):=⟨y3n false J b c (decide_eq_false (h))⟩
theorem s_leqNt {i j:Nat} (J:EnvR n E D a) (b:ev E x=some (.int k ((i:Nat):Int))) (c:ev E y=some (.int k ((j:Nat):Int))) (h:i<=j):OkS a (.binOp .leq t x y t') ty w (.bool true):=⟨z6s true J b c (decide_eq_true (Int.ofNat_le.2 h))⟩
theorem s_leqNf {i j:Nat} (J:EnvR n E D a) (c:ev E x=some (.int k ((i:Nat):Int))) (d:ev E y=some (.int k ((j:Nat):Int))) (h:¬i<=j):OkS a (.binOp .leq t x y t') ty w (.bool false):=⟨z6s false J c d (decide_eq_false (fun b=>h (Int.ofNat_le.1 b)))⟩
theorem s_leqIt {i j:Int} (J:EnvR n E D a) (b:ev E x=some (.int k i)) (c:ev E y=some (.int k j)) (h:i<=j):OkS a (.binOp .leq t x y t') ty w (.bool true):=⟨z6s true J b c (decide_eq_true (h))⟩
theorem s_leqIf {i j:Int} (J:EnvR n E D a) (b:ev E x=some (.int k i)) (c:ev E y=some (.int k j)) (h:¬i<=j):OkS a (.binOp .leq t x y t') ty w (.bool false):=⟨z6s false J b c (decide_eq_false (h))⟩
theorem s_geqNt {i j:Nat} (J:EnvR n E D a) (b:ev E x=some (.int k ((i:Nat):Int))) (c:ev E y=some (.int k ((j:Nat):Int))) (h:j<=i):OkS a (.binOp .geq t x y t') ty w (.bool true):=⟨y7p true J b c (decide_eq_true (Int.ofNat_le.2 h))⟩
theorem s_geqNf {i j:Nat} (J:EnvR n E D a) (c:ev E x=some (.int k ((i:Nat):Int))) (d:ev E y=some (.int k ((j:Nat):Int))) (h:¬j<=i):OkS a (.binOp .geq t x y t') ty w (.bool false):=⟨y7p false J c d (decide_eq_false (fun b=>h (Int.ofNat_le.1 b)))⟩
theorem s_geqIt {i j:Int} (J:EnvR n E D a) (b:ev E x=some (.int k i)) (c:ev E y=some (.int k j)) (h:j<=i):OkS a (.binOp .geq t x y t') ty w (.bool true):=⟨y7p true J b c (decide_eq_true (h))⟩
theorem s_geqIf {i j:Int} (J:EnvR n E D a) (b:ev E x=some (.int k i)) (c:ev E y=some (.int k j)) (h:¬j<=i):OkS a (.binOp .geq t x y t') ty w (.bool false):=⟨y7p false J b c (decide_eq_false (h))⟩
theorem x4d {i j:Nat} (J:EnvR n E D a) (b:ev E x=some (.int k ((i:Nat):Int))) (c:ev E y=some (.int k ((j:Nat):Int))) (h:i=j):OkS a (.binOp .eql t x y t') ty w (.bool true):=⟨qL true J b c (decide_eq_true (congrArg Int.ofNat h))⟩
theorem x4c {i j:Nat} (J:EnvR n E D a) (c:ev E x=some (.int k ((i:Nat):Int))) (d:ev E y=some (.int k ((j:Nat):Int))) (h:¬i=j):OkS a (.binOp .eql t x y t') ty w (.bool false):=⟨qL false J c d (decide_eq_false (fun b=>h (Int.ofNat.inj b)))⟩
theorem x4b {i j:Int} (J:EnvR n E D a) (b:ev E x=some (.int k i)) (c:ev E y=some (.int k j)) (h:i=j):OkS a (.binOp .eql t x y t') ty w (.bool true):=⟨qL true J b c (decide_eq_true (h))⟩
theorem x4a {i j:Int} (J:EnvR n E D a) (b:ev E x=some (.int k i)) (c:ev E y=some (.int k j)) (h:¬i=j):OkS a (.binOp .eql t x y t') ty w (.bool false):=⟨qL false J b c (decide_eq_false (h))⟩
theorem x4h {i j:Nat} (J:EnvR n E D a) (b:ev E x=some (.int k ((i:Nat):Int))) (c:ev E y=some (.int k ((j:Nat):Int))) (h:i=j):OkS a (.binOp .neq t x y t') ty w (.bool false):=⟨xA false J b c (congrArg Bool.not (decide_eq_true (congrArg Int.ofNat h)))⟩
theorem x4g {i j:Nat} (J:EnvR n E D a) (c:ev E x=some (.int k ((i:Nat):Int))) (d:ev E y=some (.int k ((j:Nat):Int))) (h:¬i=j):OkS a (.binOp .neq t x y t') ty w (.bool true):=⟨xA true J c d (congrArg Bool.not (decide_eq_false (fun b=>h (Int.ofNat.inj b))))⟩
theorem x4f {i j:Int} (J:EnvR n E D a) (b:ev E x=some (.int k i)) (c:ev E y=some (.int k j)) (h:i=j):OkS a (.binOp .neq t x y t') ty w (.bool false):=⟨xA false J b c (congrArg Bool.not (decide_eq_true (h)))⟩
theorem x4e {i j:Int} (J:EnvR n E D a) (b:ev E x=some (.int k i)) (c:ev E y=some (.int k j)) (h:¬i=j):OkS a (.binOp .neq t x y t') ty w (.bool true):=⟨xA true J b c (congrArg Bool.not (decide_eq_false (h)))⟩
theorem s_seqlt {s u:ByteArray} (J:EnvR n E D a) (b:ev E x=some (.string s)) (c:ev E y=some (.string u)) (h:s=u):OkS a (.binOp .eql t x y t') ty w (.bool true):=⟨gF true J b c (decide_eq_true h)⟩
theorem s_seqlf {s u:ByteArray} (J:EnvR n E D a) (b:ev E x=some (.string s)) (c:ev E y=some (.string u)) (h:¬s=u):OkS a (.binOp .eql t x y t') ty w (.bool false):=⟨gF false J b c (decide_eq_false h)⟩
theorem s_sneqt {s u:ByteArray} (J:EnvR n E D a) (b:ev E x=some (.string s)) (c:ev E y=some (.string u)) (h:s=u):OkS a (.binOp .neq t x y t') ty w (.bool false):=⟨y3o false J b c (congrArg Bool.not (decide_eq_true h))⟩
theorem s_sneqf {s u:ByteArray} (J:EnvR n E D a) (b:ev E x=some (.string s)) (c:ev E y=some (.string u)) (h:¬s=u):OkS a (.binOp .neq t x y t') ty w (.bool true):=⟨y3o true J b c (congrArg Bool.not (decide_eq_false h))⟩
end
end
section
variable {a:Act} {w:World} {ty:TypeId} {v:Value} {x y c:Operand} {t s:TypeId} {i f:Nat} {fn:Fn} {fs cs:Array Operand} {c0:Call}
theorem d_move (h:OkS a (.move x) ty w v):OkS a (.move x) ty w v:=h
theorem j9k (h:OkS a (.assign x) ty w v):OkS a (.assign x) ty w v:=h
theorem d_pick (h:OkS a (.pick c x y) ty w v):OkS a (.pick c x y) ty w v:=h
theorem j5d (h:OkS a (.extract x i) ty w v):OkS a (.extract x i) ty w v:=h
theorem d_not (h:OkS a (.unOp .not t x) ty w v):OkS a (.unOp .not t x) ty w v:=h
theorem d_nilc (h:OkS a (.nilCheck x) ty w v):OkS a (.nilCheck x) ty w v:=h
theorem d_fld (h:OkS a (.fieldAddr s x f) ty w v):OkS a (.fieldAddr s x f) ty w v:=h
theorem d_idx (h:OkS a (.indexAddr t x y) ty w v):OkS a (.indexAddr t x y) ty w v:=h
theorem d_call (h:OkS a (.call c0) ty w v):OkS a (.call c0) ty w v:=h
theorem d_func (h:OkS a (.makeFunc fn fs cs) ty w v):OkS a (.makeFunc fn fs cs) ty w v:=h
theorem d_add (h:OkS a (.binOp .add t x y s) ty w v):OkS a (.binOp .add t x y s) ty w v:=h
theorem d_lss (h:OkS a (.binOp .lss t x y s) ty w v):OkS a (.binOp .lss t x y s) ty w v:=h
theorem d_gtr (h:OkS a (.binOp .gtr t x y s) ty w v):OkS a (.binOp .gtr t x y s) ty w v:=h
theorem d_leq (h:OkS a (.binOp .leq t x y s) ty w v):OkS a (.binOp .leq t x y s) ty w v:=h
theorem d_geq (h:OkS a (.binOp .geq t x y s) ty w v):OkS a (.binOp .geq t x y s) ty w v:=h
theorem d_eql (h:OkS a (.binOp .eql t x y s) ty w v):OkS a (.binOp .eql t x y s) ty w v:=h
theorem d_neq (h:OkS a (.binOp .neq t x y s) ty w v):OkS a (.binOp .neq t x y s) ty w v:=h
end
section
variable {n:Nat} {E:List (Nat×Value)} {D:List Deferred} {a:Act} {w:World} {ty:TypeId} {Φ:Fz} {K:List Res} {op:Op} {v:Value}
theorem oH {cs vs:List Value} {off k:Nat} (h:z0d (z0b cs off) k=vs:=by first | (dsimp only [z0d,z0b,List.tail,Nat.zero_add,Nat.reduceAdd];try rfl;all_goals fail) | fail):z0d (z0b cs off) k=vs:=h
theorem z1c (J:EnvR n E D a) (h:OkS a op ty w v:=by first | ((with_reducible apply d_move);first | exact s_move J rfl) | ((with_reducible apply j9k);first | exact x3z J rfl) | ((with_reducible apply d_pick);first | exact s_pick J rfl rfl) | ((with_reducible apply j5d);first | exact j7d J rfl rfl) | ((with_reducible apply d_not);first | exact s_not J rfl) | ((with_reducible apply d_nilc);first | exact q9l J rfl) | ((with_reducible apply d_fld);first | ((with_reducible apply s_fav J);(exact rfl);first | ((with_reducible apply f_own);(exact rfl)) | exact f_at (by with_reducible assumption) (by rfl) | exact f_p)) | ((with_reducible apply d_idx);first | exact s_index J rfl rfl (by first | with_reducible assumption | assumption)) | ((with_reducible apply d_call);first | exact s_len J rfl | exact s_lens J rfl) | ((with_reducible apply d_func);first | exact s_func J rfl rfl) | ((with_reducible apply d_add);first | exact s_inc J rfl rfl (by omega)) | ((with_reducible apply d_lss);first | exact s_lssNt J rfl rfl (by first | with_reducible assumption | assumption) | exact s_lssNf J rfl rfl (by first | with_reducible assumption | assumption) | exact s_lssIt J rfl rfl (by first | with_reducible assumption | assumption) | exact s_lssIf J rfl rfl (by first | with_reducible assumption | assumption)) | ((with_reducible apply d_gtr);first | exact s_gtrNt J rfl rfl (by first | with_reducible assumption | assumption) | exact s_gtrNf J rfl rfl (by first | with_reducible assumption | assumption) | exact s_gtrIt J rfl rfl (by first | with_reducible assumption | assumption) | exact s_gtrIf J rfl rfl (by first | with_reducible assumption | assumption)) | ((with_reducible apply d_leq);first | exact s_leqNt J rfl rfl (by first | with_reducible assumption | assumption) | exact s_leqNf J rfl rfl (by first | with_reducible assumption | assumption) | exact s_leqIt J rfl rfl (by first | with_reducible assumption | assumption) | exact s_leqIf J rfl rfl (by first | with_reducible assumption | assumption)) | ((with_reducible apply d_geq);first | exact s_geqNt J rfl rfl (by first | with_reducible assumption | assumption) | exact s_geqNf J rfl rfl (by first | with_reducible assumption | assumption) | exact s_geqIt J rfl rfl (by first | with_reducible assumption | assumption) | exact s_geqIf J rfl rfl (by first | with_reducible assumption | assumption)) | ((with_reducible apply d_eql);first | exact x4d J rfl rfl (by first | with_reducible assumption | assumption) | exact x4c J rfl rfl (by first | with_reducible assumption | assumption) | exact x4b J rfl rfl (by first | with_reducible assumption | assumption) | exact x4a J rfl rfl (by first | with_reducible assumption | assumption) | exact s_seqlt J rfl rfl (by first | with_reducible assumption | assumption) | exact s_seqlf J rfl rfl (by first | with_reducible assumption | assumption)) | ((with_reducible apply d_neq);first | exact x4h J rfl rfl (by first | with_reducible assumption | assumption) | exact x4g J rfl rfl (by first | with_reducible assumption | assumption) | exact x4f J rfl rfl (by first | with_reducible assumption | assumption) | exact x4e J rfl rfl (by first | with_reducible assumption | assumption) | exact s_sneqt J rfl rfl (by first | with_reducible assumption | assumption) | exact s_sneqf J rfl rfl (by first | with_reducible assumption | assumption))):OkS a op ty w v:=h
theorem z1d (J:EnvR n E D a) (O:Sees Φ K w) (h:OkS a op ty w v:=by ((with_reducible apply s_ldv J);(exact rfl);first | ((with_reducible apply o_sc);first | ((with_reducible apply o_own);first | exact z3y 0 O rfl rfl | exact z3y 1 O rfl rfl | exact z3y 2 O rfl rfl | exact z3y 3 O rfl rfl | exact z3y 4 O rfl rfl | exact z3y 5 O rfl rfl | exact z3y 6 O rfl rfl | exact z3y 7 O rfl rfl | exact z3y 8 O rfl rfl) | exact v_at O (by with_reducible assumption) (by rfl) | exact v_at0 O (by with_reducible assumption) (by rfl)) | ((with_reducible apply o_ag);first | ((with_reducible apply o_own);first | exact sB 0 O rfl (by exact oH) (by rfl) | exact sB 1 O rfl (by exact oH) (by rfl) | exact sB 2 O rfl (by exact oH) (by rfl) | exact sB 3 O rfl (by exact oH) (by rfl) | exact sB 4 O rfl (by exact oH) (by rfl) | exact sB 5 O rfl (by exact oH) (by rfl) | exact sB 6 O rfl (by exact oH) (by rfl) | exact sB 7 O rfl (by exact oH) (by rfl) | exact sB 8 O rfl (by exact oH) (by rfl)) | exact v_atA O (by with_reducible assumption) (by rfl)))):OkS a op ty w v:=h
theorem z5c (J:EnvR n E D a) (O:Sees Φ K w) (h:OkS a op ty w v:=by first | exact z1c J | exact z1d J O):OkS a op ty w v:=h
end
def y8k:Code->Nat
 | .region i _ _=>i
 | .seq x y=>if y8k x=0 then y8k y else y8k x
 | .cond _ x y=>if y8k x=0 then y8k y else y8k x
 | .block _ x=>y8k x
 | .loop x=>y8k x
 | _=>0
def Stop (_:Nat):Prop:=True
structure Go2 (n:Nat) (D:List Deferred) (Φ:Fz) (K:List Res) (w:World) (A:Act->World->Prop) (E:List (Nat×Value)) (B:Act->World->Prop) (E':List (Nat×Value)):Prop where
 h:Sees Φ K w->(∀a,EnvR n E' D a->B a w)->∀a,EnvR n E D a->A a w
section
variable {n:Nat} {E E':List (Nat×Value)} {D:List Deferred} {w:World} {Φ:Fz} {K:List Res} {B:Act->World->Prop} {d t j i:Nat} {v u:Value} {b:Bool} {op:Op} {ty:TypeId} {pos:String} {aft:Array Edge} {rest:List Oper} {ops:Array Oper}
 {Q Q0:Exit->Act->World->Prop} {x y:Code} {c:Operand} {f:Act->World->Prop} {id:Nat}
theorem q7w:Go2 n D Φ K w B E B E:=⟨fun _ k=>k⟩
theorem g_op (c:∀a,EnvR n E D a->Sees Φ K w->OkS a op ty w v) (b:Nat.blt d n=true) (h:Go2 n D Φ K w (wpList prog ops Q rest) ((d,v)::E) B E') :
  Go2 n D Φ K w (wpList prog ops Q (⟨some d,op,ty,pos,aft,none⟩::rest)) E B E':=⟨fun O k a J=>xP J (c a J O).h b fun a J=>h.h O k a J⟩
theorem g_gy (e:ops[j]?.bind (·.dst)=some t) (g:get E t=some (.bool b)) (f:∀a,EnvR n E D a->Sees Φ K w->OkS a op ty w v) (c:Nat.blt d n=true) (h:Go2 n D Φ K w (wpList prog ops Q rest) ((d,v)::E) B E') :
  Go2 n D Φ K w (wpList prog ops Q (⟨some d,op,ty,pos,aft,some (j,b)⟩::rest)) E B E':=⟨fun O k a J=>g_yes J rfl rfl c e g (pO (f a J O).h fun a J=>h.h O k a J)⟩
theorem g_gn (e:ops[j]?.bind (·.dst)=some t) (f:get E t=some u) (hb:y9c u b=true) (c:Nat.blt d n=true) (h:Go2 n D Φ K w (wpList prog ops Q rest) ((d,undef)::E) B E') :
  Go2 n D Φ K w (wpList prog ops Q (⟨some d,op,ty,pos,aft,some (j,b)⟩::rest)) E B E':=⟨fun O k a J=>g_no J rfl rfl c e f hb fun a J=>h.h O k a J⟩
theorem g_nil (h:Go2 n D Φ K w (Q .normal) E B E'):Go2 n D Φ K w (wpList prog ops Q []) E B E':=⟨fun O k a J=>wpList_nil (h.h O k a J)⟩
theorem g_thn (h:Go2 n D Φ K w (f) E B E'):Go2 n D Φ K w (Exit.then f Q .normal) E B E':=⟨fun O k a J=>h.h O k a J⟩
theorem g_the (h:Go2 n D Φ K w (Q (.exit i)) E B E'):Go2 n D Φ K w (Exit.then f Q (.exit i)) E B E':=⟨fun O k a J=>h.h O k a J⟩
theorem g_thr (h:Go2 n D Φ K w (Q .ret) E B E'):Go2 n D Φ K w (Exit.then f Q .ret) E B E':=⟨fun O k a J=>h.h O k a J⟩
theorem g_bn (h:Go2 n D Φ K w (Q .normal) E B E'):Go2 n D Φ K w (Exit.inBlock i Q .normal) E B E':=⟨fun O k a J=>h.h O k a J⟩
theorem g_bx (hi:(if id=i then True else False)=True) (h:Go2 n D Φ K w (Q .normal) E B E'):Go2 n D Φ K w (Exit.inBlock i Q (.exit id)) E B E':=⟨fun O k a J=>by
 have e:id=i:=by by_cases h:id=i;exact h;rw [if_neg h] at hi;exact (of_eq_true hi).elim
 subst e;have:=h.h O k a J;simp only [Exit.inBlock]
 simpa using this⟩
theorem g_bo (hi:Nat.beq id i=false) (h:Go2 n D Φ K w (Q (.exit id)) E B E'):Go2 n D Φ K w (Exit.inBlock i Q (.exit id)) E B E':=⟨fun O k a J=>by
 have e:¬id=i:=Nat.ne_of_beq_eq_false hi;have:=h.h O k a J;simp only [Exit.inBlock]
 simpa [e,Ne.symm e] using this⟩
theorem g_br (h:Go2 n D Φ K w (Q .ret) E B E'):Go2 n D Φ K w (Exit.inBlock i Q .ret) E B E':=⟨fun O k a J=>h.h O k a J⟩
theorem g_seq (h:Go2 n D Φ K w (x.wp prog (Exit.then (y.wp prog Q) Q)) E B E'):Go2 n D Φ K w ((Code.seq x y).wp prog Q) E B E':=⟨fun O k a J=>wp_seq (h.h O k a J)⟩
theorem g_seqJ {r:Nat} (_:Stop r) (_:Nat.beq (y8k y) r=false) (h:Go2 n D Φ K w (x.wp prog (Exit.then (y.wp prog Q) Q)) E B E'):Go2 n D Φ K w ((Code.seq x y).wp prog Q) E B E':=g_seq h
theorem g_reg {l:List Oper} (h:Go2 n D Φ K w (wpList prog l.toArray Q l) E B E'):Go2 n D Φ K w ((Code.region id l.toArray false).wp prog Q) E B E':=⟨fun O k a J=>wp_region_lit (h.h O k a J)⟩
theorem g_ift (b:ev E c=some (.bool true)) (h:Go2 n D Φ K w (x.wp prog Q) E B E'):Go2 n D Φ K w ((Code.cond c x y).wp prog Q) E B E':=⟨fun O k a J=>if_t J b (h.h O k a J)⟩
theorem g_iff (b:ev E c=some (.bool false)) (h:Go2 n D Φ K w (y.wp prog Q) E B E'):Go2 n D Φ K w ((Code.cond c x y).wp prog Q) E B E':=⟨fun O k a J=>if_f J b (h.h O k a J)⟩
theorem q7x (h:Go2 n D Φ K w (Q .normal) E B E'):Go2 n D Φ K w (Code.skip.wp prog Q) E B E':=⟨fun O k a J=>wp_skip (h.h O k a J)⟩
theorem y8m (h:Go2 n D Φ K w (x.wp prog (Exit.inBlock id Q)) E B E'):Go2 n D Φ K w ((Code.block id x).wp prog Q) E B E':=⟨fun O k a J=>wp_block (h.h O k a J)⟩
theorem q7v (h:Go2 n D Φ K w (Q (.exit id)) E B E'):Go2 n D Φ K w ((Code.exit id).wp prog Q) E B E':=⟨fun O k a J=>wp_exit (h.h O k a J)⟩
theorem g_ret (h:Go2 n D Φ K w (Q .ret) E B E'):Go2 n D Φ K w (Code.ret.wp prog Q) E B E':=⟨fun O k a J=>wp_ret (h.h O k a J)⟩
section
variable {B':World->Prop} {kd:List Nat} {Qp:List PanicEntry->World->Prop} {q:Act->World->Prop} {p:Plan} {Φ':Fz} {K':List Res}
theorem g_dd (h:Go2 n D Φ K w (q) E B E'):Go2 n D Φ K w (zU prog .any ops B' kd Qp q .done) E B E':=⟨fun O k a J=>h.h O k a J⟩
theorem g_dq (hi:ops[i]? = some ⟨some d,op,ty,pos,aft,none⟩) (c:yQ kd i=2) (e:∀a w,EnvR n E D a->Sees Φ' K' w->OkS a op ty w v) (b:Nat.blt d n=true)
  (h:Go2 n D Φ K w (zU prog .any ops (Sees Φ' K') kd Qp q p) ((d,v)::E) B E'):Go2 n D Φ K w (zU prog .any ops (Sees Φ' K') kd Qp q (.q i p)) E B E' :=
 ⟨fun O k a J=>d_q J hi c (fun w f=>(e a w J f).h) b fun a J=>h.h O k a J⟩
theorem g_dq1 (hi:ops[i]? = some ⟨some d,op,ty,pos,aft,none⟩) (c:yQ kd i=1) (e:∀a w,EnvR n E D a->OkS a op ty w v) (b:Nat.blt d n=true)
  (h:Go2 n D Φ K w (zU prog .any ops B' kd Qp q p) ((d,v)::E) B E'):Go2 n D Φ K w (zU prog .any ops B' kd Qp q (.q i p)) E B E' :=
 ⟨fun O k a J=>d_q1 J hi c (fun w=>(e a w J).h) b fun a J=>h.h O k a J⟩
theorem g_dqg (hi:ops[i]? = some ⟨some d,op,ty,pos,aft,some (j,b)⟩) (e:ops[j]?.bind (·.dst)=some t) (l:get E t=some (.bool b)) (f:yQ kd i=2) (g:∀a w,EnvR n E D a->Sees Φ' K' w->OkS a op ty w v) (c:Nat.blt d n=true)
  (h:Go2 n D Φ K w (zU prog .any ops (Sees Φ' K') kd Qp q p) ((d,v)::E) B E'):Go2 n D Φ K w (zU prog .any ops (Sees Φ' K') kd Qp q (.q i p)) E B E' :=
 ⟨fun O k a J=>d_qg J hi e l f (fun w m=>(g a w J m).h) c fun a J=>h.h O k a J⟩
theorem q7u (hi:ops[i]? = some ⟨some d,op,ty,pos,aft,some (j,b)⟩) (e:ops[j]?.bind (·.dst)=some t) (l:get E t=some (.bool b)) (f:yQ kd i=1) (g:∀a w,EnvR n E D a->OkS a op ty w v) (c:Nat.blt d n=true)
  (h:Go2 n D Φ K w (zU prog .any ops B' kd Qp q p) ((d,v)::E) B E'):Go2 n D Φ K w (zU prog .any ops B' kd Qp q (.q i p)) E B E' :=
 ⟨fun O k a J=>d_qg1 J hi e l f (fun w=>(g a w J).h) c fun a J=>h.h O k a J⟩
theorem g_dn (hi:ops[i]? = some ⟨some d,op,ty,pos,aft,some (j,b)⟩) (e:ops[j]?.bind (·.dst)=some t) (f:get E t=some u) (hb:y9c u b=true) (c:Nat.blt d n=true)
  (h:Go2 n D Φ K w (zU prog .any ops B' kd Qp q p) ((d,undef)::E) B E'):Go2 n D Φ K w (zU prog .any ops B' kd Qp q (.q i p)) E B E' :=
 ⟨fun O k a J=>d_no J hi e f hb c fun a J=>h.h O k a J⟩
theorem g_dne (hi:ops[i]? = some ⟨some d,op,ty,pos,aft,some (j,b)⟩) (f:ops[j]?.bind (·.dst)=some t) (g:get E t=some u) (hb:y9c u b=true) (c:Nat.blt d n=true)
  (h:Go2 n D Φ K w (zU prog .any ops B' kd Qp q p) ((d,undef)::E) B E'):Go2 n D Φ K w (zU prog .any ops B' kd Qp q (.e i p)) E B E' :=
 ⟨fun O k a J=>d_no_e J hi f g hb c fun a J=>h.h O k a J⟩
end
theorem goGo {A:Act->World->Prop} (h:Go2 n D Φ K w A E B E':=by ((repeat first | ((with_reducible apply g_op);(exact fun _ J O=>z5c J O);rfl) | with_reducible apply g_nil | with_reducible apply g_thn | with_reducible apply g_seq | with_reducible apply g_reg | ((with_reducible apply g_ift);rfl) | ((with_reducible apply g_iff);rfl) | with_reducible apply q7x | with_reducible apply g_bn | with_reducible apply y8m | ((with_reducible apply g_gy);rfl;rfl;(exact fun _ J O=>z5c J O);rfl) | ((with_reducible apply g_gn);rfl;rfl;rfl;rfl) | ((with_reducible apply g_dq1);rfl;rfl;(exact fun _ _ J=>z1c J);rfl) | ((with_reducible apply g_dq);rfl;rfl;(exact fun _ _ J O=>z1d J O);rfl) | with_reducible apply g_dd | ((with_reducible apply g_dn);rfl;rfl;rfl;rfl;rfl) | ((with_reducible apply g_dne);rfl;rfl;rfl;rfl;rfl) | ((with_reducible apply q7u);rfl;rfl;rfl;rfl;(exact fun _ _ J=>z1c J);rfl) | ((with_reducible apply g_dqg);rfl;rfl;rfl;rfl;(exact fun _ _ J O=>z1d J O);rfl) | with_reducible apply q7v | with_reducible apply g_the | ((with_reducible apply g_bx);rfl) | ((with_reducible apply g_bo);rfl) | with_reducible apply g_ret | with_reducible apply g_thr | with_reducible apply g_br);exact q7w)):Go2 n D Φ K w A E B E':=h
theorem go {a:Act} {A:Act->World->Prop} (k:∀a,EnvR n E' D a->B a w) (J:EnvR n E D a:=by exact J) (N:Mem Φ K w:=by exact N) (h:Go2 n D Φ K w A E B E':=by exact goGo):A a w:=h.h N.toSees k a J
theorem goJ (r:Nat) {a:Act} {A:Act->World->Prop} (k:∀a,EnvR n E' D a->B a w) (J:EnvR n E D a:=by exact J) (N:Mem Φ K w:=by exact N) (h:Stop r->Go2 n D Φ K w A E B E':=by (intro hr_;(repeat first | ((with_reducible apply g_op);(exact fun _ J O=>z5c J O);rfl) | with_reducible apply g_nil | with_reducible apply g_thn | ((with_reducible apply g_seqJ hr_);rfl) | with_reducible apply g_reg | ((with_reducible apply g_ift);rfl) | ((with_reducible apply g_iff);rfl) | with_reducible apply q7x | with_reducible apply g_bn | with_reducible apply y8m | ((with_reducible apply g_gy);rfl;rfl;(exact fun _ J O=>z5c J O);rfl) | ((with_reducible apply g_gn);rfl;rfl;rfl;rfl) | ((with_reducible apply g_dq1);rfl;rfl;(exact fun _ _ J=>z1c J);rfl) | ((with_reducible apply g_dq);rfl;rfl;(exact fun _ _ J O=>z1d J O);rfl) | with_reducible apply g_dd | ((with_reducible apply g_dn);rfl;rfl;rfl;rfl;rfl) | ((with_reducible apply g_dne);rfl;rfl;rfl;rfl;rfl) | ((with_reducible apply q7u);rfl;rfl;rfl;rfl;(exact fun _ _ J=>z1c J);rfl) | ((with_reducible apply g_dqg);rfl;rfl;rfl;rfl;(exact fun _ _ J O=>z1d J O);rfl) | with_reducible apply q7v | with_reducible apply g_the | ((with_reducible apply g_bx);rfl) | ((with_reducible apply g_bo);rfl) | with_reducible apply g_ret | with_reducible apply g_thr | with_reducible apply g_br);exact q7w)):A a w:=(h trivial).h N.toSees k a J
theorem go1 {a:Act} {A:Act->World->Prop} (k:∀a,EnvR n E' D a->B a w) (J:EnvR n E D a:=by exact J) (N:Mem Φ K w:=by exact N) (h:Go2 n D Φ K w A E B E':=by ((repeat first | ((with_reducible apply g_op);(exact fun _ J O=>z5c J O);rfl) | with_reducible apply g_nil | with_reducible apply g_thn | with_reducible apply g_seq | ((with_reducible apply g_ift);rfl) | ((with_reducible apply g_iff);rfl) | with_reducible apply q7x | with_reducible apply g_bn | with_reducible apply y8m | ((with_reducible apply g_gy);rfl;rfl;(exact fun _ J O=>z5c J O);rfl) | ((with_reducible apply g_gn);rfl;rfl;rfl;rfl) | ((with_reducible apply g_dq1);rfl;rfl;(exact fun _ _ J=>z1c J);rfl) | ((with_reducible apply g_dq);rfl;rfl;(exact fun _ _ J O=>z1d J O);rfl) | with_reducible apply g_dd | ((with_reducible apply g_dn);rfl;rfl;rfl;rfl;rfl) | ((with_reducible apply g_dne);rfl;rfl;rfl;rfl;rfl) | ((with_reducible apply q7u);rfl;rfl;rfl;rfl;(exact fun _ _ J=>z1c J);rfl) | ((with_reducible apply g_dqg);rfl;rfl;rfl;rfl;(exact fun _ _ J O=>z1d J O);rfl) | with_reducible apply q7v | with_reducible apply g_the | ((with_reducible apply g_bx);rfl) | ((with_reducible apply g_bo);rfl) | with_reducible apply g_ret | with_reducible apply g_thr | with_reducible apply g_br);exact q7w)):A a w:=h.h N.toSees k a J
end
def z0a:List Res->List (Nat×Res)->List Res
 | K,[]=>K
 | K,(i,r)::l=>z0a (wA K i r) l
def uZ:List Res->List Nat->List Res
 | K,[]=>K
 | K,i::l=>uZ (cZ K i) l
def y1v (K:List Res):List Nat->List Res
 | []=>[]
 | i::l=>match yU K i with
  | some r=>r::y1v K l
  | none=>y1v K l
theorem uK {K:List Res}:∀{l:List Nat} {r:Res},r∈y1v K l->r∈K
 | [],_,h=>by cases h
 | i::l,r,h=>by
  unfold y1v at h;split at h
  ·rename_i r' a
   rcases List.mem_cons.1 h with rfl | h
   ·exact yR a
   ·exact uK h
  ·exact uK h
class ZeT (t:TypeId) (cs:outParam (List Value)):Prop where h:∃z,ZeroT prog t z/\z.cells.toList=cs
instance:ZeT 3 [.int .i64 ((0:Nat):Int)]:=⟨_,zeroValue3,rfl⟩
instance:ZeT 4 [.bool false]:=⟨_,zeroValue4,rfl⟩
instance:ZeT 9 [.string ⟨#[]⟩]:=⟨_,zeroValue9,rfl⟩
instance:ZeT 209 [.string ⟨#[]⟩,.int .i64 ((0:Nat):Int),.slice none 0 0]:=⟨_,zeroValue209,rfl⟩
instance:ZeT 180 [.int .i64 ((0:Nat):Int),.int .i64 ((0:Nat):Int)]:=⟨_,zeroValue180,rfl⟩
instance:ZeT 204 [.int .i64 ((0:Nat):Int),.int .i64 ((0:Nat):Int),.string ⟨#[]⟩,.int .i64 ((0:Nat):Int)]:=⟨_,zeroValue204,rfl⟩
instance:ZeT 260 [.int .i64 ((0:Nat):Int),.int .i64 ((0:Nat):Int)]:=⟨_,zeroValue260,rfl⟩
theorem j0t (l:List Value):(Value.agg (List.toArray l)).cells.toList=l:=rfl
theorem j0v (k:IntKind) (i:Int):(Value.int k i).cells.toList=[.int k i]:=rfl
theorem y7x (b:Bool):(Value.bool b).cells.toList=[.bool b]:=rfl
theorem j0y (s:ByteArray):(Value.string s).cells.toList=[.string s]:=rfl
theorem j0x (p:Option Addr):(Value.pointer p).cells.toList=[.pointer p]:=rfl
theorem c_sl (p:Option Addr) (n c:Nat):(Value.slice p n c).cells.toList=[.slice p n c]:=rfl
theorem j0w (b:Option Nat):(Value.map b).cells.toList=[.map b]:=rfl
theorem j0u (f:Fn) (x y:Array Value):(Value.func f x y).cells.toList=[.func f x y]:=rfl
section
variable {n:Nat} {E:List (Nat×Value)} {D:List Deferred} {a:Act} {w:World} {Φ:Fz} {K K':List Res} {d:Nat} {ty:TypeId} {pos:String} {aft:Array Edge} {rest:List Oper} {ops:Array Oper} {Q:Exit->Act->World->Prop}
theorem Mem.nf (N:Mem Φ K w) (h:K=K':=by first | (dsimp only [wA,z0a,cZ,uZ,jP,z1b];try rfl;all_goals fail) | rfl):Mem Φ K' w:=h▸N
theorem Mem.pl {r:Res} (N:Mem Φ K w) (i:Nat) (a:yU K i=some r:=by rfl) (h:r::cZ K i=K':=by first | (dsimp only [wA,z0a,cZ,uZ,jP,z1b];try rfl;all_goals fail) | rfl):Mem Φ K' w:=h▸N.pull a
theorem y5u (N:Mem Φ K w):∀(l:List Nat),Mem Φ (uZ K l) w:=fun l=>by
 induction l generalizing K with
 | nil=>exact N
 | cons i l a=>exact a (N.del i)
theorem Mem.dl (N:Mem Φ K w) (l:List Nat) (h:uZ K l=K':=by first | (dsimp only [wA,z0a,cZ,uZ,jP,z1b];try rfl;all_goals fail) | rfl):Mem Φ K' w:=h▸y5u N l
theorem yP {id:Nat} {l:List Oper} (kd:List Nat) (p:Plan) (is:List Nat) (J:EnvR n E D a) (N:Mem Φ K w) (h:∀w,Mem Φ K w->zU prog .any l.toArray (Sees Φ (y1v K is)) kd (fun c w=>∀a,a.defers=D->Q (.panic c) a w) (Q .normal) p a w)
  (b:tN l.toArray kd p=true:=by kernel_rfl):(Code.region id l.toArray true).wp prog Q a w:=dP kd p _ J N mixed b (fun r d=>uK d) h
theorem Mem.sn {Ψ:Fz} {X:List Res} (N:Mem Ψ K w) (hl:Φ.Le Ψ) (a:∀r∈X,r∈K:=by first | (simp [y1v,yU,wA,z0a,cZ,uZ,jP,z1b];all_goals fail) | fail):Sees Φ X w:=N.seesIn hl a
theorem z5m (l:List Bs) (x:Bs):strs l++[.string x]=strs (l++[x]):=by rw [q5g];rfl
end
structure AtE (n:Nat) (D:List Deferred) (Φ:Fz) (K:List Res) (w:World) (A:Act->World->Prop) (E E':List (Nat×Value)) (d:Nat) (op:Op) (S:World->Prop) (B:Act->World->Prop) (Qp:List PanicEntry->World->Prop):Prop where
 h:Sees Φ K w->(∀a ty pos aft g,EnvR n E' D a->Oper.eff prog ⟨some d,op,ty,pos,aft,g⟩ a w (fun v w'=>S w'/\∀a,EnvR n ((d,v)::E') D a->B a w') Qp)->∀a,EnvR n E D a->A a w
structure AtE0 (n:Nat) (D:List Deferred) (Φ:Fz) (K:List Res) (w:World) (A:Act->World->Prop) (E E':List (Nat×Value)) (op:Op) (S:World->Prop) (B:Act->World->Prop) (Qp:List PanicEntry->World->Prop):Prop where
 h:Sees Φ K w->(∀a ty pos aft g,EnvR n E' D a->Oper.eff prog ⟨none,op,ty,pos,aft,g⟩ a w (fun _ w'=>S w'/\∀a,EnvR n E' D a->B a w') Qp)->∀a,EnvR n E D a->A a w
structure AtQ (n:Nat) (D:List Deferred) (Φ:Fz) (K:List Res) (w:World) (A:Act->World->Prop) (E E':List (Nat×Value)) (d:Nat) (op:Op) (W:World->Prop) (B:Act->World->Prop):Prop where
 h:Sees Φ K w->∀v,(∀a ty w,EnvR n E' D a->W w->Ok prog a op ty w v)->(∀a,EnvR n ((d,v)::E') D a->B a w)->∀a,EnvR n E D a->A a w
section
variable {n:Nat} {D:List Deferred} {Φ Φ':Fz} {K K':List Res} {w:World} {A B B0 q:Act->World->Prop} {E E' E1:List (Nat×Value)} {d i j t:Nat} {b:Bool} {op:Op} {S W B':World->Prop} {Qp:List PanicEntry->World->Prop} {ty:TypeId} {pos:String} {aft:Array Edge} {rest:List Oper} {ops:Array Oper} {Q:Exit->Act->World->Prop} {kd:List Nat} {p:Plan}
theorem e_go (b:Go2 n D Φ K w A E B0 E1) (c:AtE n D Φ K w B0 E1 E' d op S B Qp):AtE n D Φ K w A E E' d op S B Qp:=⟨fun O k a J=>b.h O (fun a J=>c.h O k a J) a J⟩
theorem e0_go (b:Go2 n D Φ K w A E B0 E1) (c:AtE0 n D Φ K w B0 E1 E' op S B Qp):AtE0 n D Φ K w A E E' op S B Qp:=⟨fun O k a J=>b.h O (fun a J=>c.h O k a J) a J⟩
theorem q_go (b:Go2 n D Φ K w A E B0 E1) (c:AtQ n D Φ K w B0 E1 E' d op W B):AtQ n D Φ K w A E E' d op W B:=⟨fun O v e k a J=>b.h O (fun a J=>c.h O v e k a J) a J⟩
theorem e_st (b:Nat.blt d n=true):AtE n D Φ K w (wpList prog ops Q (⟨some d,op,ty,pos,aft,none⟩::rest)) E E d op (fun _=>True) (wpList prog ops Q rest) (fun c w'=>∀a,a.defers=D->Q (.panic c) a w') :=
 ⟨fun _ h a J=>st J rfl b rfl (xE (h a ty pos aft none J) (fun _ _ h=>h.2) (fun _ _ h=>h))⟩
theorem e_gy (f:ops[j]?.bind (·.dst)=some t) (g:get E t=some (.bool b)) (e:Nat.blt d n=true):AtE n D Φ K w (wpList prog ops Q (⟨some d,op,ty,pos,aft,some (j,b)⟩::rest)) E E d op (fun _=>True) (wpList prog ops Q rest) (fun c w'=>∀a,a.defers=D->Q (.panic c) a w') :=
 ⟨fun _ h a J=>g_yes J rfl rfl e f g (xE (h a ty pos aft (some (j,b)) J) (fun _ _ h=>h.2) (fun _ _ h=>h))⟩
theorem e_dp (hi:ops[i]? = some ⟨some d,op,ty,pos,aft,none⟩) (c:yQ kd i=0) (b:Nat.blt d n=true):AtE n D Φ K w (zU prog .any ops B' kd Qp q (.e i p)) E E d op (fun w'=>dK .any kd ⟨some d,op,ty,pos,aft,none⟩=true->B' w') (zU prog .any ops B' kd Qp q p) Qp :=
 ⟨fun _ h a J=>d_e J hi c b (h a ty pos aft none J)⟩
theorem e_dg (hi:ops[i]? = some ⟨some d,op,ty,pos,aft,some (j,b)⟩) (f:ops[j]?.bind (·.dst)=some t) (k:get E t=some (.bool b)) (g:yQ kd i=0) (c:Nat.blt d n=true):AtE n D Φ K w (zU prog .any ops B' kd Qp q (.e i p)) E E d op (fun w'=>dK .any kd ⟨some d,op,ty,pos,aft,some (j,b)⟩=true->B' w') (zU prog .any ops B' kd Qp q p) Qp :=
 ⟨fun _ h a J=>d_eg J hi f k g c (h a ty pos aft (some (j,b)) J)⟩
theorem e0_st:AtE0 n D Φ K w (wpList prog ops Q (⟨none,op,ty,pos,aft,none⟩::rest)) E E op (fun _=>True) (wpList prog ops Q rest) (fun c w'=>∀a,a.defers=D->Q (.panic c) a w') :=
 ⟨fun _ h a J=>st0 J rfl rfl (xE (h a ty pos aft none J) (fun _ _ h=>h.2) (fun _ _ h=>h))⟩
theorem e0_gy (d:ops[j]?.bind (·.dst)=some t) (e:get E t=some (.bool b)):AtE0 n D Φ K w (wpList prog ops Q (⟨none,op,ty,pos,aft,some (j,b)⟩::rest)) E E op (fun _=>True) (wpList prog ops Q rest) (fun c w'=>∀a,a.defers=D->Q (.panic c) a w') :=
 ⟨fun _ h a J=>g_yes0 J rfl rfl d e (xE (h a ty pos aft (some (j,b)) J) (fun _ _ h=>h.2) (fun _ _ h=>h))⟩
theorem e0_dp (hi:ops[i]? = some ⟨none,op,ty,pos,aft,none⟩) (b:yQ kd i=0):AtE0 n D Φ K w (zU prog .any ops B' kd Qp q (.e i p)) E E op (fun w'=>dK .any kd ⟨none,op,ty,pos,aft,none⟩=true->B' w') (zU prog .any ops B' kd Qp q p) Qp :=
 ⟨fun _ h a J=>aJ J hi b (h a ty pos aft none J)⟩
theorem q_st (b:Nat.blt d n=true):AtQ n D Φ K w (wpList prog ops Q (⟨some d,op,ty,pos,aft,none⟩::rest)) E E d op (Sees Φ K) (wpList prog ops Q rest):=⟨fun O _ c k a J=>xP J (c a ty w J O) b k⟩
theorem q_gy (e:ops[j]?.bind (·.dst)=some t) (g:get E t=some (.bool b)) (c:Nat.blt d n=true):AtQ n D Φ K w (wpList prog ops Q (⟨some d,op,ty,pos,aft,some (j,b)⟩::rest)) E E d op (Sees Φ K) (wpList prog ops Q rest):=⟨fun O _ f k a J=>g_yes J rfl rfl c e g (pO (f a ty w J O) k)⟩
theorem q_d1 (hi:ops[i]? = some ⟨some d,op,ty,pos,aft,none⟩) (c:yQ kd i=1) (b:Nat.blt d n=true):AtQ n D Φ K w (zU prog .any ops B' kd Qp q (.q i p)) E E d op (fun _=>True) (zU prog .any ops B' kd Qp q p):=⟨fun _ _ e k a J=>d_q1 J hi c (fun w=>e a ty w J trivial) b k⟩
theorem q_d2 (hi:ops[i]? = some ⟨some d,op,ty,pos,aft,none⟩) (c:yQ kd i=2) (b:Nat.blt d n=true):AtQ n D Φ K w (zU prog .any ops B' kd Qp q (.q i p)) E E d op B' (zU prog .any ops B' kd Qp q p):=⟨fun _ _ e k a J=>d_q J hi c (fun w f=>e a ty w J f) b k⟩
theorem q_d1g (hi:ops[i]? = some ⟨some d,op,ty,pos,aft,some (j,b)⟩) (e:ops[j]?.bind (·.dst)=some t) (h:get E t=some (.bool b)) (f:yQ kd i=1) (c:Nat.blt d n=true):AtQ n D Φ K w (zU prog .any ops B' kd Qp q (.q i p)) E E d op (fun _=>True) (zU prog .any ops B' kd Qp q p):=⟨fun _ _ g k a J=>d_qg1 J hi e h f (fun w=>g a ty w J trivial) c k⟩
theorem q_d2g (hi:ops[i]? = some ⟨some d,op,ty,pos,aft,some (j,b)⟩) (e:ops[j]?.bind (·.dst)=some t) (h:get E t=some (.bool b)) (f:yQ kd i=2) (c:Nat.blt d n=true):AtQ n D Φ K w (zU prog .any ops B' kd Qp q (.q i p)) E E d op B' (zU prog .any ops B' kd Qp q p):=⟨fun _ _ g k a J=>d_qg J hi e h f (fun w l=>g a ty w J l) c k⟩
end
def q2x:List Nat->Nat->Nat
 | [],_=>0
 | x::_,0=>x
 | _::l,i+1=>q2x l i
def setAt:List Value->Nat->Value->List Value
 | [],_,_=>[]
 | _::l,0,v=>v::l
 | x::l,i+1,v=>x::setAt l i v
def q8z (zs:List Value) (os:List Nat):List (Nat×Value)->List Value
 | []=>zs
 | (i,v)::l=>q8z (setAt zs (q2x os i) v) os l
def j2p (zs:List Value) (os:List Nat):List (Nat×Value)->List Value
 | []=>zs
 | (i,v)::l=>j2p (jP zs (q2x os i) v.cells.toList) os l
def q1m (E:List (Nat×Value)):List Nat->Option (List (Nat×Value))
 | []=>some []
 | t::l=>match get E t,q1m E l with
  | some v,some r=>some ((t,v)::r)
  | _,_=>none
theorem y5i {E:List (Nat×Value)}:∀{ks:List Nat} {E1:List (Nat×Value)},q1m E ks=some E1->∀t v,get E1 t=some v->get E t=some v
 | [],E1,h,t,v,a=>by simp only [q1m,Option.some.injEq] at h;subst h;cases a
 | k::ks,E1,h,t,v,a=>by
  simp only [q1m] at h;split at h
  ·rename_i u r b c
   simp only [Option.some.injEq] at h;subst h;rcases xW a with ⟨rfl,rfl⟩ | ⟨_,a⟩
   ·exact b
   ·exact y5i c t v a
  ·cases h
def eput:List (Nat×Value)->List (Nat×Value)->List (Nat×Value)
 | [],E=>E
 | x::X,E=>x::eput X E
def q2p:List Res->Nat->Option (Res×List Res)
 | [],_=>none
 | r::K,0=>some (r,K)
 | r::K,i+1=>match q2p K i with
  | some (x,K')=>some (x,r::K')
  | none=>none
theorem j6g {K:List Res} {i:Nat} {r:Res} {K':List Res} (h:q2p K i=some (r,K')):yU K i=some r/\K'=cZ K i:=by
 induction K generalizing i K' with
 | nil=>cases h
 | cons x K c=>cases i with
  | zero=>simp only [q2p,Option.some.injEq,Prod.mk.injEq] at h;exact ⟨by rw [<- h.1];rfl,h.2.symm⟩
  | succ i=>
   simp only [q2p] at h;split at h
   ·rename_i y K1 a
    simp only [Option.some.injEq,Prod.mk.injEq] at h;obtain ⟨rfl,rfl⟩:=h;obtain ⟨b,rfl⟩:=c a;exact ⟨b,rfl⟩
   ·cases h
def y0b:List Res->List Nat->Option (List Res)
 | K,[]=>some K
 | K,i::l=>match q2p K i with
  | some (r,K')=>y0b (r::K') l
  | none=>none
theorem q8e {Φ:Fz} {K K':List Res} {w:World} (l:List Nat) (h:y0b K l=some K') (N:Mem Φ K w):Mem Φ K' w:=by
 induction l generalizing K with
 | nil=>simp only [y0b,Option.some.injEq] at h;exact h▸N
 | cons i l c=>
  simp only [y0b] at h;split at h
  ·rename_i r K1 a
   obtain ⟨b,rfl⟩:=j6g a;exact c h (N.pull b)
  ·cases h
def flat:List (Nat×Value)->List Value
 | []=>[]
 | (_,v)::l=>v.cells.toList++flat l
def planOp:Nat->Nat->Plan->Plan
 | 0,i,p=>.e i p
 | _+1,i,p=>.q i p
class BzT (t:TypeId) (zs:outParam (List Value)) (os:outParam (List Nat)):Prop where h:True
instance:BzT 180 [.int .i64 ((0:Nat):Int),.int .i64 ((0:Nat):Int)] [0,1]:=⟨trivial⟩
instance:BzT 204 [.int .i64 ((0:Nat):Int),.int .i64 ((0:Nat):Int),.string ⟨#[]⟩,.int .i64 ((0:Nat):Int)] [0,1,2,3]:=⟨trivial⟩
instance:BzT 232 [.string ⟨#[]⟩,.int .i64 ((0:Nat):Int)] [0,1]:=⟨trivial⟩
instance:BzT 235 [.string ⟨#[]⟩,.int .i64 ((0:Nat):Int),.map none,.slice none 0 0] [0,2,3]:=⟨trivial⟩
instance:BzT 236 [.string ⟨#[]⟩,.string ⟨#[]⟩,.string ⟨#[]⟩,.string ⟨#[]⟩,.string ⟨#[]⟩,.string ⟨#[]⟩,.string ⟨#[]⟩,.string ⟨#[]⟩,.string ⟨#[]⟩,.string ⟨#[]⟩,.string ⟨#[]⟩,.string ⟨#[]⟩,.string ⟨#[]⟩,.string ⟨#[]⟩,.string ⟨#[]⟩] [0,1,2,3,4,5,6,7,8,9,10,11,12,13,14]:=⟨trivial⟩
instance:BzT 260 [.int .i64 ((0:Nat):Int),.int .i64 ((0:Nat):Int)] [0,1]:=⟨trivial⟩
instance:BzT 209 [.string ⟨#[]⟩,.int .i64 ((0:Nat):Int),.slice none 0 0] [0,1,2]:=⟨trivial⟩
def y9t:Nat->List Nat->Plan
 | _,[]=>.done
 | i,k::l=>planOp k i (y9t (i+1) l)
section
variable {n:Nat} {D:List Deferred} {Φ Φ':Fz} {K K':List Res} {a:Act} {w:World} {A B:Act->World->Prop} {E E':List (Nat×Value)} {d:Nat} {b:Bool} {op:Op} {S W:World->Prop} {Qp:List PanicEntry->World->Prop} {f:FuncId} {X:Value} {xs:Array Operand} {ts:Array TypeId} {vs fs cs:List Value} {y0:Operand} {R:Ending->World->Prop}
theorem nfK {K K':List Res} (h:K=K':=by first | (dsimp only [wA,z0a,cZ,uZ,jP,z1b];try rfl;all_goals fail) | rfl):K=K':=h
theorem lnS {S:Prop} (h:S:=by first | exact trivial | (intro hl;first | exact N.sn (Fz.Le.refl _) | exact N.sn (by first | assumption | exact Fz.Le.trans (by assumption) (by assumption)) | exact jT (by kernel_rfl) hl)):S:=h
theorem lnG {S:Prop} (h:S:=by first | exact trivial | (intro hl;first | exact N.sn (Fz.Le.refl _) | exact N.sn hG | exact N.sn hG.1 | exact N.sn (Fz.Le.trans (by assumption) hG) | exact N.sn (Fz.Le.trans (by assumption) hG.1) | exact N.sn (by first | assumption | exact Fz.Le.trans (by assumption) (by assumption)) | exact jT (by kernel_rfl) hl)):S:=h
theorem y8c {v:Value} (h:v.cells.toList=vs:=by first | with_reducible exact j0t _ | with_reducible exact j0v _ _ | with_reducible exact y7x _ | with_reducible exact j0y _ | with_reducible exact j0x _ | with_reducible exact c_sl _ _ _ | with_reducible exact j0w _ | with_reducible exact j0u _ _ _ | exact Sees.gsCells (i:=0) N.toSees rfl | exact Sees.gsCells (i:=1) N.toSees rfl | exact Sees.gsCells (i:=2) N.toSees rfl | exact Sees.gsCells (i:=3) N.toSees rfl | exact Sees.gsCells (i:=4) N.toSees rfl | exact Sees.gsCells (i:=5) N.toSees rfl | exact Sees.gsCells (i:=6) N.toSees rfl | exact Sees.gsCells (i:=7) N.toSees rfl | exact Sees.gsCells (i:=8) N.toSees rfl | exact Sees.gsCells (i:=9) N.toSees rfl | exact Sees.gsCells (i:=10) N.toSees rfl | exact Sees.gsCells (i:=11) N.toSees rfl | exact j0t _ | exact j0v _ _ | exact y7x _ | exact j0y _ | exact j0x _ | exact c_sl _ _ _ | exact j0w _ | exact j0u _ _ _):v.cells.toList=vs:=h
theorem oneC (h:vs.all Value.oneCell'=true:=by first | rfl | exact Sees.gsOne (i:=0) N.toSees rfl | exact Sees.gsOne (i:=1) N.toSees rfl | exact Sees.gsOne (i:=2) N.toSees rfl | exact Sees.gsOne (i:=3) N.toSees rfl | exact Sees.gsOne (i:=4) N.toSees rfl | exact Sees.gsOne (i:=5) N.toSees rfl | exact Sees.gsOne (i:=6) N.toSees rfl | exact Sees.gsOne (i:=7) N.toSees rfl | exact Sees.gsOne (i:=8) N.toSees rfl | exact Sees.gsOne (i:=9) N.toSees rfl | exact Sees.gsOne (i:=10) N.toSees rfl | exact Sees.gsOne (i:=11) N.toSees rfl):vs.all Value.oneCell'=true:=h
theorem nD (a:AtE n D Φ K w A E E' d op S B Qp:=by ((with_reducible apply e_go);(exact goGo);first | ((with_reducible apply e_st);rfl) | ((with_reducible apply e_dp);rfl;rfl;rfl) | ((with_reducible apply e_gy);rfl;rfl;rfl) | ((with_reducible apply e_dg);rfl;rfl;rfl;rfl;rfl))):AtE n D Φ K w A E E' d op S B Qp:=a
theorem y7v (a:AtE0 n D Φ K w A E E' op S B Qp:=by ((with_reducible apply e0_go);(exact goGo);first | (with_reducible apply e0_st) | ((with_reducible apply e0_dp);rfl;rfl) | ((with_reducible apply e0_gy);rfl;rfl) | ((with_reducible apply e0_dg);rfl;rfl;rfl;rfl))):AtE0 n D Φ K w A E E' op S B Qp:=a
theorem q6f (a:AtQ n D Φ K w A E E' d op W B:=by ((with_reducible apply q_go);(exact goGo);first | ((with_reducible apply q_st);rfl) | ((with_reducible apply q_d1);rfl;rfl;rfl) | ((with_reducible apply q_d2);rfl;rfl;rfl) | ((with_reducible apply q_gy);rfl;rfl;rfl) | ((with_reducible apply q_d1g);rfl;rfl;rfl;rfl;rfl) | ((with_reducible apply q_d2g);rfl;rfl;rfl;rfl;rfl))):AtQ n D Φ K w A E E' d op W B:=a
theorem zE (j:∀args w,(callFunc f args).run prog w=.ok (.enter f args) w) (k:∀w,Mem Φ' K' w->∀a,EnvR n ((d,X)::E') D a->B a w) (J:EnvR n E D a:=by exact J) (N:Mem Φ K w:=by exact N) (b:AtE n D Φ K w A E E' d (.call { callee:=.value (.func f),args:=xs,argTypes:=ts }) S B Qp:=by exact nD) (l:evs E' xs.toList=some vs:=by rfl) (c:Calls prog f vs.toArray w (fun e w'=>e=.returned X/\Mem Φ' K' w')) (i:∀w,Mem Φ' K' w->S w:=by intro w N;exact lnS):A a w :=
 b.h N.toSees (fun a ty pos aft g J=>z4n J l j c fun w N=>⟨i w N,fun a J=>k w N a J⟩) a J
theorem nQ (k:∀args w,(callFunc f args).run prog w=.ok (.enter f args) w) (kt:b=true->∀w,Mem Φ' K' w->∀a,EnvR n ((d,.bool true)::E') D a->B a w) (kf:b=false->∀w,Mem Φ' K' w->∀a,EnvR n ((d,.bool false)::E') D a->B a w) (J:EnvR n E D a:=by exact J) (N:Mem Φ K w:=by exact N) (j:AtE n D Φ K w A E E' d (.call { callee:=.value (.func f),args:=xs,argTypes:=ts }) S B Qp:=by exact nD) (l:evs E' xs.toList=some vs:=by rfl) (c:Calls prog f vs.toArray w (fun e w'=>e=.returned (.bool b)/\Mem Φ' K' w')) (i:∀w,Mem Φ' K' w->S w:=by intro w N;exact lnS):A a w :=
 j.h N.toSees (fun a ty pos aft g J=>j5l J l k c (fun hb w N=>⟨i w N,fun a J=>kt hb w N a J⟩) (fun hb w N=>⟨i w N,fun a J=>kf hb w N a J⟩)) a J
theorem FunB (k:∀args w,(callFunc f args).run prog w=.ok (.enter f args) w) (kt:b=true->∀w,Mem Φ' K' w->∀a,EnvR n ((d,.bool true)::E') D a->B a w) (kf:b=false->∀w,Mem Φ' K' w->∀a,EnvR n ((d,.bool false)::E') D a->B a w) (J:EnvR n E D a:=by exact J) (N:Mem Φ K w:=by exact N) (j:AtE n D Φ K w A E E' d (.call { callee:=.value y0,args:=xs,argTypes:=ts }) S B Qp:=by exact nD) (m:ev E' y0=some (.func (.func f) fs.toArray cs.toArray):=by rfl) (l:evs E' xs.toList=some vs:=by rfl) (c:Calls prog f (fs++vs++cs).toArray w (fun e w'=>e=.returned (.bool b)/\Mem Φ' K' w')) (i:∀w,Mem Φ' K' w->S w:=by intro w N;exact lnS):A a w :=
 j.h N.toSees (fun a ty pos aft g J=>q7k J m l k c (fun hb w N=>⟨i w N,fun a J=>kt hb w N a J⟩) (fun hb w N=>⟨i w N,fun a J=>kf hb w N a J⟩)) a J
theorem yI {β:Type} {X:β->Value} {F1:β->Fz} {KO:β->List Res} {G:β->Prop} (j:∀args w,(callFunc f args).run prog w=.ok (.enter f args) w) (k:∀y w,G y->Mem (F1 y) (KO y) w->∀a,EnvR n ((d,X y)::E') D a->B a w) (J:EnvR n E D a:=by exact J) (N:Mem Φ K w:=by exact N) (b:AtE n D Φ K w A E E' d (.call { callee:=.value (.func f),args:=xs,argTypes:=ts }) S B Qp:=by exact nD) (l:evs E' xs.toList=some vs:=by rfl) (c:Calls prog f vs.toArray w (fun e w'=>∃y,e=.returned (X y)/\G y/\Mem (F1 y) (KO y) w')) (i:∀y w,G y->Mem (F1 y) (KO y) w->S w:=by intro y w hG N;exact lnG):A a w :=
 b.h N.toSees (fun a ty pos aft g J=>uF J l j c fun y w hG N=>⟨i y w hG N,fun a J=>k y w hG N a J⟩) a J
theorem yF {α ε:Type} {r:Except ε α} {X:α->Value} {C:ε->List PanicEntry} {b i:Fz} {KO:α->List Res} {KE:List Res} (p:∀args w,(callFunc f args).run prog w=.ok (.enter f args) w) (k:∀x w,r=.ok x->Mem b (KO x) w->∀a,EnvR n ((d,X x)::E') D a->B a w) (kp:∀c w,r=.error c->Mem i KE w->R (.panicked (C c)) w) {fn:Func} {Q0:Exit->Act->World->Prop} (hQ:∀e a w,bodyPost prog fn R e a w->Q0 e a w:=by exact hQ) (J:EnvR n E D a:=by exact J) (N:Mem Φ K w:=by exact N) (j:AtE n D Φ K w A E E' d (.call { callee:=.value (.func f),args:=xs,argTypes:=ts }) S B Qp:=by exact nD) (q:evs E' xs.toList=some vs:=by rfl)
  (c:Calls prog f vs.toArray w (fun e w'=>Out r (fun x=>e=.returned (X x)/\Mem b (KO x) w') (fun c=>e=.panicked (C c)/\Mem i KE w'))) (m:∀x w,r=.ok x->Mem b (KO x) w->S w:=by intro x w hq N;exact lnS) (l:∀c w,(∀a,a.defers=[]->Q0 (.panic c) a w)->Qp c w:=by exact fun _ _ h=>h):A a w :=
 j.h N.toSees (fun a ty pos aft g J=>cD J q p c (fun x w hq N=>⟨m x w hq N,fun a J=>k x w hq N a J⟩) (fun c w hq N=>l _ _ fun _ o=>hQ _ _ _ (zT o (kp c w hq N)))) a J
theorem dB {α β ε:Type} {r:Except ε α} {X:α->β->Value} {C:ε->List PanicEntry} {F1:α->β->Fz} {b:Fz} {KO:α->β->List Res} {KE:List Res} {G:α->β->Prop} (o:∀args w,(callFunc f args).run prog w=.ok (.enter f args) w) (k:∀x y w,r=.ok x->G x y->Mem (F1 x y) (KO x y) w->∀a,EnvR n ((d,X x y)::E') D a->B a w) (kp:∀c w,r=.error c->Mem b KE w->R (.panicked (C c)) w) {fn:Func} {Q0:Exit->Act->World->Prop} (hQ:∀e a w,bodyPost prog fn R e a w->Q0 e a w:=by exact hQ) (J:EnvR n E D a:=by exact J) (N:Mem Φ K w:=by exact N) (i:AtE n D Φ K w A E E' d (.call { callee:=.value (.func f),args:=xs,argTypes:=ts }) S B Qp:=by exact nD) (p:evs E' xs.toList=some vs:=by rfl)
  (c:Calls prog f vs.toArray w (fun e w'=>Out r (fun x=>∃y,e=.returned (X x y)/\G x y/\Mem (F1 x y) (KO x y) w') (fun c=>e=.panicked (C c)/\Mem b KE w'))) (l:∀x y w,r=.ok x->G x y->Mem (F1 x y) (KO x y) w->S w:=by intro x y w hq hG N;exact lnG) (j:∀c w,(∀a,a.defers=[]->Q0 (.panic c) a w)->Qp c w:=by exact fun _ _ h=>h):A a w :=
 i.h N.toSees (fun a ty pos aft g J=>wM J p o c (fun x y w hq hG N=>⟨l x y w hq hG N,fun a J=>k x y w hq hG N a J⟩) (fun c w hq N=>j _ _ fun _ m=>hQ _ _ _ (zT m (kp c w hq N)))) a J
theorem Sto (i:Nat) {x y:Operand} {T T0:TypeId} {b off k:Nat} {v:Value} (kk:∀w,Mem Φ K' w->∀a,EnvR n E' D a->B a w) (J:EnvR n E D a:=by exact J) (N:Mem Φ K w:=by exact N) (e:AtE0 n D Φ K w A E E' (.store T x y) S B Qp:=by exact y7v) (j:SzT T k:=by infer_instance)
  (p:ev E' x=some (.pointer (some ⟨b,off,none⟩)):=by rfl) (q:ev E' y=some v:=by rfl) (o:yU K i=some (.blk b (ob cs T0)):=by rfl) (l:v.cells.toList=vs:=by exact y8c) (hl:vs.length=k:=by rfl)
  (d:vs.all Value.oneCell'=true:=by exact oneC) (m:Nat.ble (off+vs.length) cs.length=true:=by rfl) (c:wA K i (.blk b (ob (jP cs off vs) T0))=K':=by exact nfK) (f:∀w,Mem Φ K' w->S w:=by intro w N;exact lnS):A a w :=
 e.h N.toSees (fun a ty pos aft g J=>zQ i J N p q o l j.h hl d m fun w N=>⟨f w (c▸N),fun a J=>kk w (c▸N) a J⟩) a J
theorem Alc {T:TypeId} (k:∀b w,Mem Φ (.blk b (ob cs T)::K) w->∀a,EnvR n ((d,.pointer (some ⟨b,0,none⟩))::E') D a->B a w) (J:EnvR n E D a:=by exact J) (N:Mem Φ K w:=by exact N) (f:AtE n D Φ K w A E E' d (.alloc T) S B Qp:=by exact nD) (j:ZeT T cs:=by infer_instance) (i:∀b w,Mem Φ (.blk b (ob cs T)::K) w->S w:=by intro y w N;exact lnS):A a w :=
 let ⟨_,c,e⟩:=j.h
 f.h N.toSees (fun a ty pos aft g J=>qW N c e fun b w N=>⟨i b w N,fun a J=>k b w N a J⟩) a J
theorem Bx {T:TypeId} {x:Operand} {v:Value} (k:∀b w,Mem Φ (.blk b (ob cs T)::K) w->∀a,EnvR n ((d,.pointer (some ⟨b,0,none⟩))::E') D a->B a w) (J:EnvR n E D a:=by exact J) (N:Mem Φ K w:=by exact N) (c:AtE n D Φ K w A E E' d (.box T x) S B Qp:=by exact nD) (i:ev E' x=some v:=by rfl) (f:v.cells.toList=cs:=by exact y8c)
  (e:∀b w,Mem Φ (.blk b (ob cs T)::K) w->S w:=by intro y w N;exact lnS):A a w:=c.h N.toSees (fun a ty pos aft g J=>eff_box J N i f fun b w N=>⟨e b w N,fun a J=>k b w N a J⟩) a J
theorem MkM {t:TypeId} (k:∀b w,Mem Φ (.mp b []::K) w->∀a,EnvR n ((d,.map (some b))::E') D a->B a w) (J:EnvR n E D a:=by exact J) (N:Mem Φ K w:=by exact N) (c:AtE n D Φ K w A E E' d (.makeMap t none) S B Qp:=by exact nD) (e:∀b w,Mem Φ (.mp b []::K) w->S w:=by intro y w N;exact lnS):A a w :=
 c.h N.toSees (fun a ty pos aft g J=>q1k N fun b w N=>⟨e b w N,fun a J=>k b w N a J⟩) a J
theorem uU (i:Nat) {t kt et:TypeId} {x y z:Operand} {b:Nat} {m:List (Bs×Value)} {s:Bs} {v:Value} (l:Under prog t (.map kt et)) (c:Under prog kt .string) (k:∀w,Mem Φ K' w->∀a,EnvR n E' D a->B a w) (J:EnvR n E D a:=by exact J) (N:Mem Φ K w:=by exact N) (e:AtE0 n D Φ K w A E E' (.mapUpdate t x y z) S B Qp:=by exact y7v)
  (o:ev E' x=some (.map (some b)):=by rfl) (p:ev E' y=some (.string s):=by rfl) (q:ev E' z=some v:=by rfl) (j:yU K i=some (.mp b m):=by rfl) (d:wA K i (.mp b (z0y m s v))=K':=by exact nfK) (f:∀w,Mem Φ K' w->S w:=by intro w N;exact lnS):A a w :=
 e.h N.toSees (fun a ty pos aft g J=>uV i l c J N o p q j fun w N=>⟨f w (d▸N),fun a J=>k w (d▸N) a J⟩) a J
theorem vU (i:Nat) {s x:Operand} {t e:TypeId} {size bytes:Nat} {v vx:Value} {rs news:List Value} {K':Value->List Res} (l:RowT prog t e size bytes) (k:∀v w,Mem Φ (K' v) w->∀a,EnvR n ((d,v)::E') D a->B a w) (J:EnvR n E D a:=by exact J) (N:Mem Φ K w:=by exact N) (f:AtE n D Φ K w A E E' d (.call { callee:=.builtin .append,args:=#[s,x],argTypes:=#[t,t] }) S B Qp:=by exact nD)
  (O:ev E' s=some v:=by rfl) (m:yU K i=some (.gs v e size rs):=by rfl) (p:ev E' x=some vx:=by rfl) (o:y4q w vx size news:=by first | exact Sees.rowIn (i:=0) N.toSees rfl | exact Sees.rowIn (i:=1) N.toSees rfl | exact Sees.rowIn (i:=2) N.toSees rfl | exact Sees.rowIn (i:=3) N.toSees rfl) (c:news.all Value.oneCell'=true:=by rfl) (hb:(rs.length+news.length) * bytes<=140737488355328:=by first | (rw [xI];simp only [lcQ,lnQ];omega) | (have h_:=hch.length;rw [h_];simp only [lcQ,lnQ];omega) | (simp only [pF,lcQ,lnQ];omega) | (simp only [lcQ,lnQ];omega)) (b:∀v,wA K i (.gs v e size (rs++news))=K' v:=by intro v;exact nfK)
  (j:∀v w,Mem Φ (K' v) w->S w:=by intro y w N;exact lnS):A a w:=f.h N.toSees (fun a ty pos aft g J=>wX i l J N O m p o c hb fun v w N=>⟨j v w (b v▸N),fun a J=>k v w (b v▸N) a J⟩) a J
theorem qR {t e:TypeId} {len sz:Nat} {ps:Array (Nat×Operand)} {vs:List (Nat×Value)} {zs:List Value} (k:∀v w,Mem Φ (.gs v e sz cs::K) w->∀a,EnvR n ((d,v)::E') D a->B a w) (J:EnvR n E D a:=by exact J) (N:Mem Φ K w:=by exact N) (l:AtE n D Φ K w A E E' d (.buildSlice t len ps) S B Qp:=by exact nD) (r:SlT t e:=by infer_instance) (O:SzT e sz:=by infer_instance) (u:ZeT e zs:=by infer_instance)
  (q:evp E' ps.toList=some vs:=by rfl) (C:flat vs=cs:=by first | (simp only [flat,j0t,j0v,y7x,j0y,j0x,c_sl,j0w,j0u,List.cons_append,List.nil_append,List.append_nil];try rfl;all_goals fail) | fail) (p:Nat.ble (len * sz) 16777216=true:=by rfl) (b:len * sz≠0:=by decide)
  (o:Instr.fill (fun i=>some (i * sz,sz)) ((List.range (len * sz)).map (fun x=>zs[x % zs.length]!)).toArray vs=some cs.toArray:=by kernel_rfl) (hl:cs.length=len * sz:=by rfl) (s:len<=maxLen:=by decide)
  (m:∀v w,Mem Φ (.gs v e sz cs::K) w->S w:=by intro y w N;exact lnS):A a w:=by
 obtain ⟨z,c,f⟩:=u.h;have j:z.cells=zs.toArray:=by rw [<- f]
 exact l.h N.toSees (fun a ty pos aft g J=>qA J N q (pQ r.h O.h c p b (by rw [j];simpa using o)) hl s fun v w N _=>⟨m v w N,fun a J=>k v w N a J⟩) a J
theorem Qq {v:Value} (k:∀a,EnvR n ((d,v)::E') D a->B a w) (J:EnvR n E D a:=by exact J) (N:Mem Φ K w:=by exact N) (e:AtQ n D Φ K w A E E' d op W B:=by exact q6f) (o:∀{a ty w},EnvR n E' D a->W w->Ok prog a op ty w v):A a w:=e.h N.toSees v (fun _ _ _ b c=>o b c) k a J
theorem BldT {t:TypeId} {ps:Array (Nat×Operand)} {vs:List (Nat×Value)} {zs:List Value} {os:List Nat} (k:∀a,EnvR n ((d,.agg cs.toArray)::E') D a->B a w) (J:EnvR n E D a:=by exact J) (N:Mem Φ K w:=by exact N) (b:AtQ n D Φ K w A E E' d (.build t ps) W B:=by exact q6f) (f:BzT t zs os:=by infer_instance) (c:evp E' ps.toList=some vs:=by rfl)
  (e:j2p zs os vs=cs:=by first | (simp only [j2p,q2x,j0t,j0v,y7x,j0y,j0x,c_sl,j0w,j0u,jP,z1b];try rfl;all_goals fail) | (simp only [j2p];try rfl;all_goals fail) | fail) (hb:prog.built t vs=some cs.toArray:=by kernel_rfl):A a w:=b.h N.toSees _ (fun _ _ _ J _=>jV J c hb) k a J
theorem yE {t:TypeId} {ps:Array (Nat×Operand)} {vs:List (Nat×Value)} {zs:List Value} {os:List Nat} (k:∀a,EnvR n ((d,.agg cs.toArray)::E') D a->B a w) (J:EnvR n E D a:=by exact J) (N:Mem Φ K w:=by exact N) (b:AtQ n D Φ K w A E E' d (.build t ps) W B:=by exact q6f) (f:BzT t zs os:=by infer_instance) (c:evp E' ps.toList=some vs:=by rfl)
  (e:q8z zs os vs=cs:=by first | (dsimp only [q8z,q2x,setAt];try rfl;all_goals fail) | fail) (hb:prog.built t vs=some cs.toArray:=by kernel_rfl):A a w:=b.h N.toSees _ (fun _ _ _ J _=>jV J c hb) k a J
theorem Reg {id:Nat} {l:List Oper} {p:Plan} {Q:Exit->Act->World->Prop} (kd:List Nat) (is:List Nat) (h:∀w,Mem Φ K w->∀a,EnvR n E' D a->zU prog .any l.toArray (Sees Φ (y1v K is)) kd (fun c w=>∀a,a.defers=D->Q (.panic c) a w) (Q .normal) p a w) (J:EnvR n E D a:=by exact J) (N:Mem Φ K w:=by exact N)
  (d:Go2 n D Φ K w A E ((Code.region id l.toArray true).wp prog Q) E':=by exact goGo) (f:y9t 0 kd=p:=by first | (dsimp only [y9t,planOp];try rfl;all_goals fail) | fail) (b:tN l.toArray kd p=true:=by kernel_rfl):A a w :=
 d.h N.toSees (fun a J=>dP kd p _ J N mixed b (fun r e=>uK e) (fun w N=>h w N a J)) a J
theorem yG {fn:Func} {t:Nat} {v:Value} {Q:Exit->Act->World->Prop} (h:R (.returned v) w) (hQ:∀e a w,bodyPost prog fn R e a w->Q e a w:=by exact hQ) (J:EnvR n E [] a:=by exact J) (N:Mem Φ K w:=by exact N) (b:Go2 n [] Φ K w A E (Q .ret) E':=by exact goGo) (c:fn.results=#[.tmp t]:=by rfl) (d:get E' t=some v:=by rfl):A a w:=b.h N.toSees (fun a J=>hQ _ _ _ (ret1 J c d h)) a J
theorem z4g {fn:Func} {t u:Nat} {v x:Value} {Q:Exit->Act->World->Prop} (h:R (.returned (.tuple #[v,x])) w) (hQ:∀e a w,bodyPost prog fn R e a w->Q e a w:=by exact hQ) (J:EnvR n E [] a:=by exact J) (N:Mem Φ K w:=by exact N) (b:Go2 n [] Φ K w A E (Q .ret) E':=by exact goGo) (c:fn.results=#[.tmp t,.tmp u]:=by rfl) (d:get E' t=some v:=by rfl) (f:get E' u=some x:=by rfl):A a w:=b.h N.toSees (fun a J=>hQ _ _ _ (ret2 J c d f h)) a J
theorem kN {fn:Func} {t T b k i:Nat} {T0:TypeId} {Q:Exit->Act->World->Prop} (h:R (.returned (.agg cs.toArray)) w) (hQ:∀e a w,bodyPost prog fn R e a w->Q e a w:=by exact hQ) (J:EnvR n E [] a:=by exact J) (N:Mem Φ K w:=by exact N) (c:Go2 n [] Φ K w A E (Q .ret) E':=by exact goGo) (j:fn.results=#[.cell t T]:=by rfl) (l:get E' t=some (.pointer (some ⟨b,0,none⟩)):=by rfl)
  (g:yU K i=some (.blk b (ob cs T0)):=by first | exact (rfl:yU _ 0=_) | exact (rfl:yU _ 1=_) | exact (rfl:yU _ 2=_) | exact (rfl:yU _ 3=_) | exact (rfl:yU _ 4=_) | exact (rfl:yU _ 5=_) | exact (rfl:yU _ 6=_) | exact (rfl:yU _ 7=_) | exact (rfl:yU _ 8=_) | exact (rfl:yU _ 9=_) | exact (rfl:yU _ 10=_) | exact (rfl:yU _ 11=_)) (f:AgT T:=by infer_instance) (d:SzT T k:=by infer_instance) (hl:cs.length=k:=by rfl):A a w:=c.h N.toSees (fun a J=>hQ _ _ _ (retcA J N.toSees j l g f.h d.h hl h)) a J
theorem zJ {fn:Func} {f:FuncId} {cd:Code} (b:prog.funcs[f]? = some fn) (c:fn.ntmps=n) (k:∀Q:Exit->Act->World->Prop,(∀e a w,bodyPost prog fn R e a w->Q e a w)->∀a,EnvR n (aT 0 vs) [] a->cd.wp prog Q a w) (hb:fn.body=some cd:=by rfl) (hl:Nat.ble vs.length n=true:=by rfl):Calls prog f vs.toArray w R:=enter b hb c hl k
theorem EnvR.pk {E0:List (Nat×Value)} (J:EnvR n E D a) (h:Sub E0 E:=by repeat' (first | exact trivial | rfl | constructor)):EnvR n E0 D a:=J.of_sub h
theorem EnvR.ks (J:EnvR n E D a) (ks:List Nat) {E1:List (Nat×Value)} (h:q1m E ks=some E1:=by rfl):EnvR n E1 D a:=J.sub (y5i h)
theorem yO {Q:Exit->Act->World->Prop} {c:Code} {E1:List (Nat×Value)} (_:EnvR n E1 D a) (_:Mem Φ K w) (I:(Fz->List (Nat×Value)->List (Nat×Res)->Act->World->Prop)->Nat->Act->World->Prop) (b:Nat)
  (d:I (fun Ψ X Y a w=>EnvR n (eput X E1) D a/\Mem Ψ (z0a K Y) w) b a w)
  (hb:∀m a w,I (fun Ψ X Y a w=>EnvR n (eput X E1) D a/\Mem Ψ (z0a K Y) w) m a w->∀L:Act->World->Prop,(∀m' a w,m' < m->I (fun Ψ X Y a w=>EnvR n (eput X E1) D a/\Mem Ψ (z0a K Y) w) m' a w->L a w)->c.wp prog (Exit.then L Q) a w) :
  (Code.loop c).wp prog Q a w:=gV (I _) b d hb
theorem Mem.ar (N:Mem Φ K w) (ds is:List Nat) (h:y0b (uZ K ds) is=some K':=by rfl):Mem Φ K' w:=q8e is h (y5u N ds)
theorem mV {x y:Bool} {M:Prop} (N:M) (h:x=y):Ending.returned (.bool x)=Ending.returned (.bool y)/\M:=⟨h▸rfl,N⟩
theorem ret_s {x y:Bs} {M:Prop} (N:M) (h:x=y):Ending.returned (.string x)=Ending.returned (.string y)/\M:=⟨h▸rfl,N⟩
theorem y6q {x y:Int} {k:IntKind} {M:Prop} (N:M) (h:x=y):Ending.returned (.int k x)=Ending.returned (.int k y)/\M:=⟨h▸rfl,N⟩
end
section
variable {Φ Ψ:Fz}
class MonoF {α:Type} (R:Fz->List Value->α->Prop):Prop where h:∀Φ Ψ c x,Φ.Le Ψ->R Φ c x->R Ψ c x
instance:MonoF RStr:=⟨RStr.mono⟩
theorem SliceOf.up {α:Type} {R:Fz->List Value->α->Prop} [MonoF R] {k:Nat} {v:Value} {xs:List α} (h:SliceOf R Φ k v xs) (hl:Φ.Le Ψ):SliceOf R Ψ k v xs:=h.mono MonoF.h hl
theorem SliceOf.fm {α:Type} {R:Fz->List Value->α->Prop} {k:Nat} {v:Value} {xs:List α} (h:SliceOf R Φ k v xs) (a:0 < k:=by decide):∃p c,v=.slice p xs.length c/\xs.length<=9223372036854775807/\(xs≠[]->∃q,p=some q):=h.form a
theorem REx.fm {cs:List Value} {x:Ex} (h:REx Φ cs x):∃p c q d,cs=[.int .i64 x.kind,.int .i64 x.num,.string x.name,.slice p x.args.length c,.slice q x.arms.length d]/\I64 x.num/\SliceOf REx Φ 5 (.slice p x.args.length c) x.args/\SliceOf RArm Φ 7 (.slice q x.arms.length d) x.arms /\
  x.args.length<=9223372036854775807/\(x.args≠[]->∃q,p=some q)/\x.arms.length<=9223372036854775807/\(x.arms≠[]->∃p,q=some p):=by
 obtain ⟨s,t,rfl,e,a,b⟩:=REx.iff.1 h;obtain ⟨p,c,rfl,f,g⟩:=a.fm;obtain ⟨q,d,rfl,i,j⟩:=b.fm;exact ⟨p,c,q,d,rfl,e,a,b,f,g,i,j⟩
theorem RVal.fm {cs:List Value} {x:Val} (h:RVal Φ cs x):∃p c,cs=[.string x.con,.int .i64 x.num,.slice p x.args.length c]/\I64 x.num/\SliceOf RVal Φ 3 (.slice p x.args.length c) x.args/\x.args.length<=9223372036854775807/\(x.args≠[]->∃q,p=some q):=by
 obtain ⟨s,rfl,b,a⟩:=RVal.iff.1 h;obtain ⟨p,c,rfl,d,e⟩:=a.fm;exact ⟨p,c,rfl,b,a,d,e⟩
theorem SliceOf.el {α:Type} {R:Fz->List Value->α->Prop} {k m c i:Nat} {p:Option Addr} {xs:List α} (h:SliceOf R Φ k (.slice p m c) xs) (e:xs≠[]->∃q,p=some q) (a:i < xs.length) (d:0 < k:=by decide) :
  ∃q,p=some q/\∃x,xs[i]? = some x/\∃cs,cs.length=k/\At Φ (q.add (i * k)) cs/\R Φ cs x:=by
 obtain ⟨q,rfl⟩:=e (zO a);obtain ⟨x,b⟩:=zW a;exact ⟨q,rfl,x,b,h.elem b d⟩
end
end Go.Sw

namespace Go.Sw
open Go.Proofs
instance:ScT 4:=⟨Tryz.isAgg4⟩
instance:SzT 4 1:=⟨Tryz.sizeOf4⟩
end Go.Sw

namespace Go.Sw
open Go.Proofs.Tryz
open Go.Proofs
theorem fo_26_0:zH prog 26 0 0:=zD runUnderlying26 rfl sizeOf22 (by decide) rfl
theorem fo_26_1:zH prog 26 1 1:=zD runUnderlying26 rfl sizeOf23 (by decide) rfl
theorem fo_26_2:zH prog 26 2 2:=zD runUnderlying26 rfl sizeOf24 (by decide) rfl
theorem fo_26_3:zH prog 26 3 3:=zD runUnderlying26 rfl sizeOf23 (by decide) rfl
theorem fo_36_0:zH prog 36 0 0:=zD runUnderlying36 rfl sizeOf3 (by decide) rfl
theorem fo_36_1:zH prog 36 1 1:=zD runUnderlying36 rfl sizeOf3 (by decide) rfl
theorem fo_36_2:zH prog 36 2 2:=zD runUnderlying36 rfl sizeOf34 (by decide) rfl
theorem fo_36_3:zH prog 36 3 3:=zD runUnderlying36 rfl sizeOf3 (by decide) rfl
theorem j1g:zH prog 48 0 0:=zD runUnderlying48 rfl sizeOf3 (by decide) rfl
theorem fo_48_1:zH prog 48 1 1:=zD runUnderlying48 rfl sizeOf9 (by decide) rfl
theorem fo_48_2:zH prog 48 2 2:=zD runUnderlying48 rfl sizeOf9 (by decide) rfl
theorem fo_48_3:zH prog 48 3 3:=zD runUnderlying48 rfl sizeOf3 (by decide) rfl
theorem fo_48_4:zH prog 48 4 4:=zD runUnderlying48 rfl sizeOf3 (by decide) rfl
theorem j1h:zH prog 48 5 5:=zD runUnderlying48 rfl sizeOf44 (by decide) rfl
theorem fo_48_6:zH prog 48 6 6:=zD runUnderlying48 rfl sizeOf45 (by decide) rfl
theorem j1i:zH prog 48 7 7:=zD runUnderlying48 rfl sizeOf46 (by decide) rfl
theorem fo_50_0:zH prog 50 0 0:=zD runUnderlying50 rfl sizeOf9 (by decide) rfl
theorem fo_50_1:zH prog 50 1 1:=zD runUnderlying50 rfl sizeOf4 (by decide) rfl
theorem fo_50_2:zH prog 50 2 2:=zD runUnderlying50 rfl sizeOf43 (by decide) rfl
theorem fo_50_3:zH prog 50 3 3:=zD runUnderlying50 rfl sizeOf48 (by decide) rfl
theorem j1j:zH prog 75 0 0:=zD runUnderlying75 rfl sizeOf9 (by decide) rfl
theorem fo_75_1:zH prog 75 1 1:=zD runUnderlying75 rfl sizeOf3 (by decide) rfl
theorem y8i:zH prog 79 0 0:=zD runUnderlying79 rfl sizeOf9 (by decide) rfl
theorem y8j:zH prog 79 1 1:=zD runUnderlying79 rfl sizeOf23 (by decide) rfl
theorem fo_79_2:zH prog 79 2 2:=zD runUnderlying79 rfl sizeOf48 (by decide) rfl
theorem fo_85_0:zH prog 85 0 0:=zD runUnderlying85 rfl sizeOf9 (by decide) rfl
theorem fo_85_1:zH prog 85 1 1:=zD runUnderlying85 rfl sizeOf9 (by decide) rfl
theorem fo_85_2:zH prog 85 2 2:=zD runUnderlying85 rfl sizeOf83 (by decide) rfl
theorem j1k:zH prog 90 0 0:=zD runUnderlying90 rfl sizeOf34 (by decide) rfl
theorem j1l:zH prog 90 1 1:=zD runUnderlying90 rfl sizeOf87 (by decide) rfl
theorem z7k:zH prog 90 2 2:=zD runUnderlying90 rfl sizeOf88 (by decide) rfl
theorem j9s:zH prog 101 0 0:=zD runUnderlying101 rfl sizeOf97 (by decide) rfl
theorem j9t:zH prog 101 1 1:=zD runUnderlying101 rfl sizeOf63 (by decide) rfl
theorem j9u:zH prog 101 2 2:=zD runUnderlying101 rfl sizeOf98 (by decide) rfl
theorem j9v:zH prog 101 3 3:=zD runUnderlying101 rfl sizeOf99 (by decide) rfl
theorem j9w:zH prog 109 0 0:=zD runUnderlying109 rfl sizeOf26 (by decide) rfl
theorem j9x:zH prog 109 1 4:=zD runUnderlying109 rfl sizeOf98 (by decide) rfl
theorem j9y:zH prog 125 0 0:=zD runUnderlying125 rfl sizeOf9 (by decide) rfl
theorem j9z:zH prog 125 1 1:=zD runUnderlying125 rfl sizeOf4 (by decide) rfl
theorem x0a:zH prog 135 0 0:=zD runUnderlying135 rfl sizeOf130 (by decide) rfl
theorem x0b:zH prog 135 1 1:=zD runUnderlying135 rfl sizeOf3 (by decide) rfl
theorem x0c:zH prog 135 2 2:=zD runUnderlying135 rfl sizeOf3 (by decide) rfl
theorem x0d:zH prog 137 0 0:=zD runUnderlying137 rfl sizeOf28 (by decide) rfl
theorem x0e:zH prog 160 0 0:=zD runUnderlying160 rfl sizeOf26 (by decide) rfl
theorem x0f:zH prog 160 1 4:=zD runUnderlying160 rfl sizeOf98 (by decide) rfl
theorem x0g:zH prog 160 2 5:=zD runUnderlying160 rfl sizeOf98 (by decide) rfl
theorem x0h:zH prog 160 3 6:=zD runUnderlying160 rfl sizeOf158 (by decide) rfl
theorem x0k:zH prog 199 0 0:=zD runUnderlying199 rfl sizeOf105 (by decide) rfl
theorem x0l:zH prog 199 1 1:=zD runUnderlying199 rfl sizeOf97 (by decide) rfl
theorem x0m:zH prog 199 2 2:=zD runUnderlying199 rfl sizeOf98 (by decide) rfl
theorem x0n:zH prog 199 3 3:=zD runUnderlying199 rfl sizeOf98 (by decide) rfl
theorem x0o:zH prog 199 4 4:=zD runUnderlying199 rfl sizeOf43 (by decide) rfl
set_option maxRecDepth 20000 in
theorem j2u:RowT prog 43 125 2 24:=⟨underlying43,⟨_,_,Tryz.type125,rfl,rfl,rfl,rfl⟩,by decide,by decide⟩
set_option maxRecDepth 20000 in
theorem j2w:RowT prog 83 4 1 1:=⟨underlying83,⟨_,_,Tryz.type4,rfl,rfl,rfl,rfl⟩,by decide,by decide⟩
end Go.Sw
