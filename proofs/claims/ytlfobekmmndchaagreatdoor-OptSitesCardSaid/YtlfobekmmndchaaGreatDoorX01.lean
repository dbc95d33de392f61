import GoSem.Instr.MapUpdate
import Derived.Lib.LaidTab
import Derived.Lib.ItoaNum
import Derived.Test.YtlfobekmmndchaaGreatDoorProg
import Derived.Test.YtlfobekmmndchaaGreatDoorX00
set_option linter.unusedVariables false
set_option linter.unusedSimpArgs false
namespace Go.Sw
variable {P:Program} {n:Nat} {E:List (Nat×Value)} {D:List Deferred} {a:Act} {Φ Ψ:Fz} {K:List Res} {w:World}
variable {dst:Option Tmp} {ty:TypeId} {pos:String} {aft:Array Edge} {g:Option (Nat×Bool)}
variable {Kn:Value->World->Prop} {Qp:List PanicEntry->World->Prop}
def jJ:List (Bs×Value)->Bs->Option Value
 | [],_=>none
 | (k,v)::m,s=>if s=k then some v else jJ m s
def z0p:List (Bs×Value)->Bs->Value->List (Bs×Value)
 | [],s,x=>[(s,x)]
 | (k,v)::m,s,x=>if s=k then (k,x)::m else (k,v)::z0p m s x
def MapAt (Φ:Fz) (b:Nat) (m:List (Bs×Value)):Prop:=∃es clock,Φ.obj b=some (.map es clock)/\MapOk es clock m
theorem MapAt.mono {b:Nat} {m:List (Bs×Value)} (h:MapAt Φ b m) (hl:Φ.Le Ψ):MapAt Ψ b m:=let ⟨es,c,a,d⟩:=h;⟨es,c,hl.obj _ _ a,d⟩
def sU:List (Bs×Value)->Bs->Nat->Option (Nat×Value)
 | [],_,_=>none
 | (k,v)::m,s,i=>if s=k then some (i,v) else sU m s (i+1)
theorem pH (s t:ByteArray):(s==t)=decide (s=t):=by
 show (s.data==t.data)=_
 rw [Bool.eq_iff_iff];simp
 constructor
 ·intro h;cases s;cases t;simp_all
 ·rintro rfl;rfl
theorem z1t:∀(es:List MapEntry) (m:List (Bs×Value)) (s:Bs) (i:Nat),es.map (fun e=>(e.key,e.val))=m.map (fun p=>(Value.string p.1,p.2)) ->
  Instr.findNow .string (.string s) es i=some (sU m s i)
 | [],[],_,_,_=>rfl
 | [],_::_,_,_,h=>by simp at h
 | _::_,[],_,_,h=>by simp at h
 | e::es,(k,v)::m,s,i,h=>by
  simp only [List.map_cons,List.cons.injEq,Prod.mk.injEq] at h
  obtain ⟨⟨a,b⟩,c⟩:=h
  simp only [Instr.findNow,a,Instr.sameNow,pH,sU]
  by_cases O:s=k
  ·simp [O,b]
  ·simp only [O,decide_false,if_false]
   exact z1t es m s (i+1) c
theorem y3v:∀(m:List (Bs×Value)) (s:Bs) (i:Nat),(sU m s i).map (·.2)=jJ m s
 | [],_,_=>rfl
 | (k,v)::m,s,i=>by
  simp only [sU,jJ]
  split
  ·rfl
  ·exact y3v m s (i+1)
theorem oE {kt:TypeId} (a:Under P kt .string) (e:Bool) (v:Value) (j:Nat):(Instr.checkKey e (j+1) kt v).run P w=.ok () w:=by
 simp [Instr.checkKey,Sem.run_bind,a w]
theorem z5g {kt:TypeId} (a:Under P kt .string) {es:Array MapEntry} {m:List (Bs×Value)} (h:es.toList.map (fun e=>(e.key,e.val))=m.map (fun p=>(Value.string p.1,p.2))) (s:Bs) :
  (Instr.findKey kt (.string s) es.toList).run P w=.ok (sU m s 0) w:=by
 simp [Instr.findKey,Sem.run_bind,a w,z1t _ _ _ _ h]
def zZ (ok:Bool) (z:Value):Option Value->Value
 | some v=>if ok then .tuple #[v,.bool true] else v
 | none=>if ok then .tuple #[z,.bool false] else z
theorem y0f {t kt et:TypeId} {b:Nat} {es:Array MapEntry} {clock:Nat} {m:List (Bs×Value)} {z:Value} (d:Under P t (.map kt et)) (a:Under P kt .string) (e:ZeroT P et z)
  (hb:w.heap[b]? = some (.map es clock)) (h:MapOk es clock m) (s:Bs) (ok:Bool) :
  (Instr.lookup t (.map (some b)) (.string s) ok).run P w=.ok (zZ ok z (jJ m s)) w:=by
 have c:(getObj b).run P w=.ok (.map es clock) w:=by simp [getObj,Sem.run,hb]
 simp only [Instr.lookup,Sem.run_bind,d w,Result.andThen_ok,c,Sem.run_pure,oE a,z5g a h.eq]
 have:=y3v m s 0
 cases N:sU m s 0 with
 | none=>rw [N] at this;simp only [Option.map_none] at this;rw [<- this];simp [e w,zZ]
 | some p=>rw [N] at this;simp only [Option.map_some] at this;rw [<- this];simp [zZ]
theorem yT {t kt et:TypeId} {x y:Operand} {b:Nat} {m:List (Bs×Value)} {z:Value} {s:Bs} {ok:Bool} (g:Under P t (.map kt et)) (f:Under P kt .string) (j:ZeroT P et z)
  (J:EnvR n E D a) (N:Sees Φ K w) (h:ev E x=some (.map (some b))) (i:ev E y=some (.string s)) (c:MapAt Φ b m):Ok P a (.lookup t x y ok) ty w (zZ ok z (jJ m s)):=fun _ _ _ _=>by
 obtain ⟨es,clock,d,e⟩:=c
 simp only [execOp,J.ev h,J.ev i]
 simp [Sem.run_bind,y0f g f j (N.fz _ _ d) e]
theorem yZ (i:Nat) {t kt et:TypeId} {x y:Operand} {b:Nat} {m:List (Bs×Value)} {z:Value} {s:Bs} {ok:Bool} (g:Under P t (.map kt et)) (f:Under P kt .string) (k:ZeroT P et z)
  (J:EnvR n E D a) (N:Sees Φ K w) (h:ev E x=some (.map (some b))) (j:ev E y=some (.string s)) (e:yV K i=some (.mp b m)):Ok P a (.lookup t x y ok) ty w (zZ ok z (jJ m s)):=fun _ _ _ _=>by
 obtain ⟨es,clock,c,d⟩:=N.own _ (yS e)
 simp only [execOp,J.ev h,J.ev j]
 simp [Sem.run_bind,y0f g f k c d]
theorem y9f {t kt et:TypeId} {x y:Operand} {z:Value} {s:Bs} {ok:Bool} (d:Under P t (.map kt et)) (b:Under P kt .string) (c:ZeroT P et z)
  (J:EnvR n E D a) (e:ev E x=some (.map none)) (f:ev E y=some (.string s)):Ok P a (.lookup t x y ok) ty w (zZ ok z none):=fun _ _ _ _=>by
 simp only [execOp,J.ev e,J.ev f]
 simp only [Instr.lookup,Sem.run_bind,d w,Result.andThen_ok,Sem.run_pure,oE b,Instr.findKey,b w,Instr.findNow,c w,bind_pure_comp,Sem.run_map]
 cases ok <;> simp [zZ,Sem.run_bind,Instr.findNow,c w]
theorem q0p {t:TypeId} (N:Mem Φ K w) (k:∀b w',Mem Φ (.mp b []::K) w'->Kn (.map (some b)) w'):Oper.eff P ⟨dst,.makeMap t none,ty,pos,aft,g⟩ a w Kn Qp:=by
 unfold Oper.eff
 have:(execOp a.eval ⟨dst,.makeMap t none,ty,pos,aft,g⟩).run P w=.ok (.value (.map (some w.heap.size))) { w with heap:=w.heap.push (.map #[] 0) }:=by
  simp [execOp,Instr.makeMap]
 rw [this]
 refine k _ _ (N.more rfl rfl (fun b hb=>wB hb) ⟨#[],0,by simp,by simp,by simp,by simp⟩ (by simp [Res.foot]))
theorem j0j:∀(m:List (Bs×Value)) (s:Bs) (v:Value) (j:Nat),z0p m s v=match sU m s j with | none=>m++[(s,v)] | some (i,_)=>m.set (i - j) (s,v)
 | [],_,_,_=>rfl
 | (k,x)::m,s,v,j=>by
  simp only [z0p,sU]
  split
  ·subst_vars;simp
  ·have:=j0j m s v (j+1)
   rw [this]
   have a:∀(m:List (Bs×Value)) (j i:Nat) (y:Value),sU m s j=some (i,y)->j<=i:=by
    intro m
    induction m with
    | nil=>intro j i y h;simp [sU] at h
    | cons p m b=>
     intro j i y h
     obtain ⟨k,x⟩:=p
     simp only [sU] at h
     split at h
     ·simp only [Option.some.injEq,Prod.mk.injEq] at h;omega
     ·have:=b (j+1) i y h;omega
   cases N:sU m s (j+1) with
   | none=>simp
   | some p=>
    obtain ⟨i,y⟩:=p
    have c:=a m (j+1) i y N
    have e:i - j=(i - (j+1))+1:=by omega
    simp only [e,List.set_cons_succ]
theorem q1w:∀(m:List (Bs×Value)) (s:Bs) (j i:Nat) (y:Value),sU m s j=some (i,y)->m[i - j]? = some (s,y)/\j<=i
 | [],_,_,_,_,h=>by simp [sU] at h
 | (k,x)::m,s,j,i,y,h=>by
  simp only [sU] at h
  split at h
  ·simp only [Option.some.injEq,Prod.mk.injEq] at h
   obtain ⟨rfl,rfl⟩:=h;subst_vars;simp
  ·obtain ⟨a,b⟩:=q1w m s (j+1) i y h
   have e:i - j=(i - (j+1))+1:=by omega
   exact ⟨by rw [e];simpa using a,by omega⟩
theorem uI (i:Nat) {t kt et:TypeId} {x y z:Operand} {b:Nat} {m:List (Bs×Value)} {s:Bs} {v:Value} (X:Under P t (.map kt et)) (T:Under P kt .string)
  (J:EnvR n E D a) (N:Mem Φ K w) (F:ev E x=some (.map (some b))) (Y:ev E y=some (.string s)) (Z:ev E z=some v) (R:yV K i=some (.mp b m))
  (k:∀w',Mem Φ (kS K i (.mp b (z0p m s v))) w'->Kn undef w'):Oper.eff P ⟨dst,.mapUpdate t x y z,ty,pos,aft,g⟩ a w Kn Qp:=by
 obtain ⟨es,clock,hb,f⟩:=N.own _ (yS R)
 have U:(getObj b).run P w=.ok (.map es clock) w:=by simp [getObj,Sem.run,hb]
 have L:b < w.heap.size:=(Array.getElem?_eq_some_iff.1 hb).1
 have u:∀o,(setObj b o).run P w=.ok () { w with heap:=w.heap.setIfInBounds b o }:=fun o=>by simp only [setObj,Sem.run,hb]
 have fin:∀es' clock',MapOk es' clock' (z0p m s v)->Mem Φ (kS K i (.mp b (z0p m s v))) { w with heap:=w.heap.setIfInBounds b (.map es' clock') }:=fun es' clock' h=>
  N.upd R rfl rfl (fun c S M=>by simp only;rw [Array.getElem?_setIfInBounds_ne (fun e=>M (by simp [Res.foot,e]))]) ⟨es',clock',by simp [L],h⟩ (.inl rfl)
 unfold Oper.eff
 simp only [execOp,J.ev F,J.ev Y,J.ev Z,Instr.mapUpdate,Sem.run_bind,X w,Result.andThen_ok,U,oE T,z5g T f.eq]
 have d:=j0j m s v 0
 cases C:sU m s 0 with
 | none=>
  rw [C] at d
  simp only at d
  simp only [u,Result.andThen_ok,Sem.run_pure,kC]
  refine k _ (fin _ _ ⟨?_,?_,?_⟩)
  ·rw [d];simp [f.eq]
  ·intro e J
   simp only [Array.toList_push,List.mem_append,List.mem_singleton] at J
   rcases J with J | rfl
   ·have:=f.old e J;omega
   ·simp
  ·simp only [Array.toList_push,List.map_append,List.map_cons,List.map_nil]
   rw [List.nodup_append]
   refine ⟨f.nodup,by simp,fun b hb c S V=>?_⟩
   simp only [List.mem_singleton] at S
   obtain ⟨e,J,rfl⟩:=List.mem_map.1 hb
   have:=f.old e J
   omega
 | some p=>
  obtain ⟨j,y⟩:=p
  rw [C] at d
  simp only [Nat.sub_zero] at d
  obtain ⟨H,_⟩:=q1w m s 0 j y C
  simp only [Nat.sub_zero] at H
  have l:es.toList[j]?.map (fun e=>(e.key,e.val))=some (Value.string s,y):=by
   rw [<- List.getElem?_map,f.eq,List.getElem?_map,H];rfl
  obtain ⟨e,A,G⟩:∃e,es[j]? = some e/\e.key=.string s:=by
   cases h:es[j]? with
   | none=>
    have h':es.toList[j]? = none:=by simpa using h
    rw [h'] at l;cases l
   | some e=>
    have h':es.toList[j]? = some e:=by simpa using h
    rw [h'] at l;simp only [Option.map_some,Option.some.injEq,Prod.mk.injEq] at l;exact ⟨e,rfl,l.1⟩
  have I:(Instr.keyThatStays (((es[j]?).map (·.key)).getD (.string s)) (.string s)).run P w=.ok (.string s) w:=by
   simp [A,G,Instr.keyThatStays,Instr.sameBits,pH]
  simp only [Sem.run_bind,I,u,Result.andThen_ok,Sem.run_pure,kC]
  have W:j < es.size:=(Array.getElem?_eq_some_iff.1 A).1
  have B:(es.modify j fun e=>{ e with key:=Value.string s,val:=v }).toList=es.toList.modify j (fun e=>{ e with key:=Value.string s,val:=v }):=by simp
  refine k _ (fin _ _ ⟨?_,?_,?_⟩)
  ·rw [B,d]
   apply List.ext_getElem?
   intro q
   have hq:es.toList[q]?.map (fun e=>(e.key,e.val))=m[q]?.map (fun p=>(Value.string p.1,p.2)):=by rw [<- List.getElem?_map,f.eq,List.getElem?_map]
   simp only [List.getElem?_map,List.getElem?_modify,List.getElem?_set]
   by_cases r:j=q
   ·subst r
    have hml':j < m.length:=(List.getElem?_eq_some_iff.1 H).1
    have h':es.toList[j]? = some e:=by simpa using A
    simp [h',hml']
   ·have hq':=hq
    simp only [Array.getElem?_toList] at hq'
    simp [r,hq']
  ·intro x F
   rw [B] at F
   obtain ⟨q,hq⟩:=List.mem_iff_getElem?.1 F
   rw [List.getElem?_modify] at hq
   cases hz':es.toList[q]? with
   | none=>rw [hz'] at hq;simp at hq
   | some e'=>
    rw [hz'] at hq
    have hb':=f.old e' (mgQ hz')
    have Q:=Option.some.inj hq
    rw [<- Q]
    show (if j=q then _ else _:MapEntry).born < clock
    by_cases r:j=q
    ·rw [if_pos r];exact hb'
    ·rw [if_neg r];exact hb'
  ·rw [B]
   have:(es.toList.modify j (fun e=>{ e with key:=Value.string s,val:=v })).map (·.born)=es.toList.map (·.born):=by
    apply List.ext_getElem?
    intro q
    simp only [List.getElem?_map,List.getElem?_modify]
    cases es.toList[q]? with
    | none=>simp
    | some e'=>simp;split <;> rfl
   rw [this];exact f.nodup
end Go.Sw

namespace Go.Sw
noncomputable def Ex.sz (e:Ex):Nat:=SizeOf.sizeOf e
noncomputable def Val.sz (e:Val):Nat:=SizeOf.sizeOf e
def strs (l:List Bs):List Value:=l.map .string
theorem q3y (l m:List Bs):strs (l++m)=strs l++strs m:=by simp [strs]
theorem wT (l:List Bs):(strs l).length=l.length:=by simp [strs]
theorem chunks_str {Φ:Fz}:∀{l:List Bs} {cs:List Value},Chunks (RStr Φ) 1 cs l↔cs=strs l
 | [],cs=>by simp [Chunks,strs]
 | s::l,cs=>by
  simp only [Chunks,RStr]
  constructor
  ·rintro ⟨c,rest,rfl,_,rfl,a⟩
   have:=chunks_str.1 a
   subst this;rfl
  ·rintro rfl
   exact ⟨[.string s],strs l,rfl,rfl,rfl,chunks_str.2 rfl⟩
theorem SliceOf.strs {Φ:Fz} {v:Value} {l:List Bs}:SliceOf RStr Φ 1 v l↔Row Φ v 1 (strs l) :=
 ⟨fun ⟨_,a,b⟩=>chunks_str.1 b▸a,fun h=>⟨_,h,chunks_str.2 rfl⟩⟩
theorem pG {P:Program} {t e:TypeId} {len k:Nat} {z:Value} {parts:List (Nat×Value)} {cs:List Value} (d:Under P t (.slice e)) (O:SizeT P e k) (f:ZeroT P e z) (c:Nat.ble (len * k) 16777216=true) (a:len * k≠0)
  (b:Instr.fill (fun i=>some (i * k,k)) ((List.range (len * k)).map (fun x=>z.cells[x % z.cells.size]!)).toArray parts=some cs.toArray):built P t parts len cs e:=fun w=>by
 have hn':¬len * k > 2 ^ 24:=by
  have:len * k<=16777216:=by simpa using c
  omega
 have hi:(Array.range (len * k)).map (z.cells[· % z.cells.size]!)=((List.range (len * k)).map (fun x=>z.cells[x % z.cells.size]!)).toArray:=by
  apply Array.ext'
  simp
 simp only [Instr.buildSlice,Sem.run_bind,d w,O w,Result.andThen_ok,if_neg hn',if_neg a,f w,Sem.run_pure,hi,b,newRow,run_newObj]
 simp [ob]
theorem pP {P:Program} {t e:TypeId} {k:Nat} (b:Under P t (.slice e)) (O:SizeT P e k):built P t [] 0 [] e:=fun w=>by
 simp only [Instr.buildSlice,Sem.run_bind,b w,O w,Result.andThen_ok]
 have a:Array.range 0=(#[]:Array Nat):=by simp
 simp [Instr.fill,newRow,ob,a]
theorem z7w {t:Bs} {i:Nat} (h:i < t.size):∃c,t[i]? = some c:=⟨t[i],by simp [h]⟩
def yW (t:Bs) (i:Nat):Nat:=match t[i]? with | some c=>c.toNat | none=>0
theorem sG {t:Bs} {i:Nat} {c:UInt8} (h:t[i]? = some c):yW t i=c.toNat:=by simp [yW,h]
theorem z4w {t:Bs} {i:Nat} (h:¬i < t.size):yW t i=0:=by
 have:t[i]? = none:=by simp;omega
 simp [yW,this]
def nD (c:Nat):Bool:=decide (97<=c)&&decide (c<=122)
def dR (c:Nat):Bool:=decide (65<=c)&&decide (c<=90)
def yU (c:Nat):Bool:=decide (48<=c)&&decide (c<=57)
def qQ (c:Nat):Bool:=nD c || dR c || yU c || decide (c=95)
def jN (c:Nat):Bool:=decide (c=32) || decide (c=9) || decide (c=10) || decide (c=13)
def vV (s p:Bs):Bool:=decide (p.size<=s.size)&&decide (s.extract 0 p.size=p)
def qB (p:Nat->Bool) (t:Bs):Nat->Nat->Nat
 | 0,_=>0
 | f+1,i=>if i < t.size/\p (yW t i)=true then qB p t f (i+1)+1 else 0
theorem y4k (p:Nat->Bool) (t:Bs):∀(f g i:Nat),t.size<=i+f->t.size<=i+g->qB p t f i=qB p t g i
 | 0,0,_,_,_=>rfl
 | 0,g+1,i,h,_=>by simp only [qB];rw [if_neg (by omega)]
 | f+1,0,i,_,h=>by simp only [qB];rw [if_neg (by omega)]
 | f+1,g+1,i,h,h'=>by
  simp only [qB]
  split
  ·rw [y4k p t f g (i+1) (by omega) (by omega)]
  ·rfl
theorem tX (p:Nat->Bool) (t:Bs) (i:Nat):qB p t t.size i=if i < t.size/\p (yW t i)=true then qB p t t.size (i+1)+1 else 0:=by
 rw [y4k p t t.size (t.size+1) i (by omega) (by omega)]
 simp only [qB]
theorem kU (p:Nat->Bool) (t:Bs):∀(f i:Nat),i<=t.size->i+qB p t f i<=t.size
 | 0,i,h=>by simpa [qB] using h
 | f+1,i,h=>by
  simp only [qB]
  split
  ·rename_i a
   have:=kU p t f (i+1) (by omega)
   omega
  ·omega
end Go.Sw

namespace Go.Sw
variable {P:Program} {n:Nat} {E:List (Nat×Value)} {D:List Deferred} {a:Act} {Φ Ψ:Fz} {K:List Res} {w:World}
variable {Kn:Value->World->Prop} {Qp:List PanicEntry->World->Prop} {dst:Option Tmp} {ty:TypeId} {pos:String} {aft:Array Edge} {g:Option (Nat×Bool)}
def Out {ε α:Type} (r:Except ε α) (A:α->Prop) (B:ε->Prop):Prop:=match r with | .ok x=>A x | .error c=>B c
theorem aZ {α ε:Type} {f:FuncId} {xs:Array Operand} {ts:Array TypeId} {vs:List Value} {r:Except ε α} {X:α->Value} {C:ε->List PanicEntry} {d i:Fz} {KO:α->List Res} {KE:List Res}
  (J:EnvR n E D a) (o:evs E xs.toList=some vs) (m:∀args w,(callFunc f args).run P w=.ok (.enter f args) w)
  (l:Calls P f vs.toArray w (fun e w'=>Out r (fun x=>e=.returned (X x)/\Mem d (KO x) w') (fun c=>e=.panicked (C c)/\Mem i KE w')))
  (k:∀x w',r=.ok x->Mem d (KO x) w'->Kn (X x) w') (kp:∀c w',r=.error c->Mem i KE w'->Qp (C c) w') :
  Oper.eff P ⟨dst,.call { callee:=.value (.func f),args:=xs,argTypes:=ts },ty,pos,aft,g⟩ a w Kn Qp:=by
 refine mH J o m l (fun v w' h=>?_) (fun c w' h=>?_) (fun w' h=>?_)
 ·cases r with
  | ok x=>obtain ⟨b,j⟩:=h;cases b;exact k _ _ rfl j
  | error c=>obtain ⟨b,_⟩:=h;cases b
 ·cases r with
  | ok x=>obtain ⟨b,_⟩:=h;cases b
  | error c=>obtain ⟨b,j⟩:=h;cases b;exact kp _ _ rfl j
 ·cases r with
  | ok x=>obtain ⟨b,_⟩:=h;cases b
  | error c=>obtain ⟨b,_⟩:=h;cases b
theorem jM {md:Region.Mode} {kd:List Nat} {o:Oper} {B:Prop} (h:dI md kd o=false) (hl:dI md kd o=true):B:=by rw [h] at hl;cases hl
theorem xC {t:TypeId} {v:Value} (w:World):(Instr.panic (.iface t v)).run P w=.halt (.panic (.iface t v)) w:=rfl
theorem retcA {fn:Func} {R:Ending->World->Prop} {t T b k i:Nat} {cs:List Value} {T0:TypeId} (J:EnvR n E [] a) (N:Sees Φ K w) (o:fn.results=#[.cell t T]) (p:get E t=some (.pointer (some ⟨b,0,none⟩)))
  (m:yV K i=some (.blk b (ob cs T0))) (f:AggT P T) (e:SizeT P T k) (hl:cs.length=k) (h:R (.returned (.agg cs.toArray)) w):bodyPost P fn R .ret a w:=by
 refine ⟨J.defs,.agg cs.toArray,?_,h⟩
 have g:∀j v,cs[j]? = some v->w.cell? ((⟨b,0,none⟩:Addr).add j)=some v:=fun j v l=>by
  have c:=N.cell m j
  rw [sV,l] at c
  unfold Addr.add;split
  ·subst_vars;exact c
  ·simpa using c
 have d:=run_loadCells_list (P:=P) (w:=w) ⟨b,0,none⟩ cs g
 rw [hl] at d
 simp [results,o,Array.getD_eq_getD_getElem?,J.env t _ p,asAddr,loadVar,f w,e w,d]
theorem zS {fn:Func} {R:Ending->World->Prop} {c:List PanicEntry} (b:a.defers=[]) (h:R (.panicked c) w):bodyPost P fn R (.panic c) a w:=⟨b,h⟩
def kF (t:Bs) (org:Nat):Nat->Nat->Int->Except (Nat×Int) Nat
 | 0,_,_=>.error (org,12)
 | f+1,i,o=>
  if t.size<=i then .error (org,12) else
  if vV (t.extract i t.size) (⟨#[40,42]⟩:Bs) then (if 100<=o then .error (i,6) else kF t org f (i+2) (o+1)) else
  if vV (t.extract i t.size) (⟨#[42,41]⟩:Bs) then (if o - 1=0 then .ok (i+2) else kF t org f (i+2) (o - 1)) else
  kF t org f (i+1) o
theorem jS {t p:Bs} {i:Nat} (h:vV (t.extract i t.size) p=true):p.size<=t.size - i:=by
 simp only [vV,baQ,decide_eq_true_eq,ByteArray.size_extract] at h
 have:=h.1
 simp only [Nat.min_self] at this
 exact this
theorem nH (t:Bs) (org:Nat):∀(f g i:Nat) (o:Int),t.size < i+f->t.size < i+g->kF t org f i o=kF t org g i o
 | 0,0,_,_,_,_=>rfl
 | 0,g+1,i,o,h,_=>by simp only [kF];rw [if_pos (by omega)]
 | f+1,0,i,o,_,h=>by simp only [kF];rw [if_pos (by omega)]
 | f+1,g+1,i,o,h,h'=>by
  simp only [kF]
  rw [nH t org f g (i+2) (o+1) (by omega) (by omega),nH t org f g (i+2) (o - 1) (by omega) (by omega),nH t org f g (i+1) o (by omega) (by omega)]
def vF (t:Bs) (org i:Nat) (o:Int):Except (Nat×Int) Nat:=kF t org (t.size+1) i o
theorem pQ (t:Bs) (org i:Nat) (o:Int):vF t org i o =
  if t.size<=i then .error (org,12) else
  if vV (t.extract i t.size) (⟨#[40,42]⟩:Bs) then (if 100<=o then .error (i,6) else vF t org (i+2) (o+1)) else
  if vV (t.extract i t.size) (⟨#[42,41]⟩:Bs) then (if o - 1=0 then .ok (i+2) else vF t org (i+2) (o - 1)) else
  vF t org (i+1) o:=by
 unfold vF
 rw [nH t org (t.size+1) (t.size+2) i o (by omega) (by omega)]
 simp only [kF]
theorem wL (t:Bs) (org:Nat):∀(f i q:Nat) (o:Int),kF t org f i o=.ok q->i < q/\q<=t.size
 | 0,_,_,_,h=>by simp [kF] at h
 | f+1,i,q,o,h=>by
  simp only [kF] at h
  split at h
  ·cases h
  ·split at h
   ·split at h
    ·cases h
    ·have:=wL t org f _ _ _ h;omega
   ·split at h
    ·rename_i O
     have a:=jS O
     have:(⟨#[42,41]⟩:Bs).size=2:=rfl
     split at h
     ·simp only [Except.ok.injEq] at h;omega
     ·have:=wL t org f _ _ _ h;omega
    ·have:=wL t org f _ _ _ h;omega
def dW (c:Nat×Int):List PanicEntry:=[{ v:=.iface 180 (.agg #[.int .i64 c.1,.int .i64 c.2]),recovered:=false }]
theorem wA {α β ε:Type} {f:FuncId} {xs:Array Operand} {ts:Array TypeId} {vs:List Value} {r:Except ε α} {X:α->β->Value} {C:ε->List PanicEntry} {F1:α->β->Fz} {d:Fz} {KO:α->β->List Res} {KE:List Res} {G:α->β->Prop}
  (J:EnvR n E D a) (o:evs E xs.toList=some vs) (m:∀args w,(callFunc f args).run P w=.ok (.enter f args) w)
  (l:Calls P f vs.toArray w (fun e w'=>Out r (fun x=>∃y,e=.returned (X x y)/\G x y/\Mem (F1 x y) (KO x y) w') (fun c=>e=.panicked (C c)/\Mem d KE w')))
  (k:∀x y w',r=.ok x->G x y->Mem (F1 x y) (KO x y) w'->Kn (X x y) w') (kp:∀c w',r=.error c->Mem d KE w'->Qp (C c) w') :
  Oper.eff P ⟨dst,.call { callee:=.value (.func f),args:=xs,argTypes:=ts },ty,pos,aft,g⟩ a w Kn Qp:=by
 refine mH J o m l (fun v w' h=>?_) (fun c w' h=>?_) (fun w' h=>?_)
 ·cases r with
  | ok x=>obtain ⟨y,b,i,j⟩:=h;cases b;exact k _ _ _ rfl i j
  | error c=>obtain ⟨b,_⟩:=h;cases b
 ·cases r with
  | ok x=>obtain ⟨y,b,_⟩:=h;cases b
  | error c=>obtain ⟨b,i⟩:=h;cases b;exact kp _ _ rfl i
 ·cases r with
  | ok x=>obtain ⟨y,b,_⟩:=h;cases b
  | error c=>obtain ⟨b,_⟩:=h;cases b
theorem tR {β:Type} {f:FuncId} {xs:Array Operand} {ts:Array TypeId} {vs:List Value} {X:β->Value} {F1:β->Fz} {KO:β->List Res} {G:β->Prop}
  (J:EnvR n E D a) (m:evs E xs.toList=some vs) (l:∀args w,(callFunc f args).run P w=.ok (.enter f args) w)
  (j:Calls P f vs.toArray w (fun e w'=>∃y,e=.returned (X y)/\G y/\Mem (F1 y) (KO y) w'))
  (k:∀y w',G y->Mem (F1 y) (KO y) w'->Kn (X y) w') :
  Oper.eff P ⟨dst,.call { callee:=.value (.func f),args:=xs,argTypes:=ts },ty,pos,aft,g⟩ a w Kn Qp :=
 mH J m l j (fun v w' h=>by obtain ⟨y,b,d,i⟩:=h;cases b;exact k _ _ d i) (fun c w' h=>by obtain ⟨y,b,_⟩:=h;cases b) (fun w' h=>by obtain ⟨y,b,_⟩:=h;cases b)
def z2m (t:Bs):Nat->Nat->Except (Nat×Int) Nat
 | 0,i=>.ok i
 | f+1,i=>
  if vV (t.extract (i+qB jN t t.size i) t.size) (⟨#[40,42]⟩:Bs)=true then
   match vF t (i+qB jN t t.size i) (i+qB jN t t.size i) 0 with
   | .error c=>.error c
   | .ok q=>z2m t f q
  else .ok (i+qB jN t t.size i)
theorem z9u (t:Bs):∀(f g i:Nat),i<=t.size->t.size < i+f->t.size < i+g->z2m t f i=z2m t g i
 | 0,_,i,a,h,_=>by omega
 | _+1,0,i,a,_,h=>by omega
 | f+1,g+1,i,a,h,h'=>by
  simp only [z2m]
  split
  ·cases b:vF t (i+qB jN t t.size i) (i+qB jN t t.size i) 0 with
   | error c=>rfl
   | ok q=>
    have:=wL _ _ _ _ _ _ b
    exact z9u t f g q this.2 (by omega) (by omega)
  ·rfl
def cM (t:Bs) (i:Nat):Except (Nat×Int) Nat:=z2m t (t.size+1) i
theorem z2l (t:Bs) (i:Nat) (h:i<=t.size):cM t i =
  if vV (t.extract (i+qB jN t t.size i) t.size) (⟨#[40,42]⟩:Bs)=true then
   match vF t (i+qB jN t t.size i) (i+qB jN t t.size i) 0 with
   | .error c=>.error c
   | .ok q=>cM t q
  else .ok (i+qB jN t t.size i):=by
 unfold cM
 rw [z9u t (t.size+1) (t.size+2) i h (by omega) (by omega)]
 simp only [z2m]
end Go.Sw

namespace Go.Sw
def kw (l:List UInt8):Bs:=⟨l.toArray⟩
def wordsL:List Bs:=[kw [97,110,100],kw [99,97,115,101],kw [100,97,116,97],kw [101,108,115,101],kw [101,110,100],kw [102,110],kw [102,117,110],kw [105,102],kw [105,110],kw [105,110,112,117,116],kw [108,101,116],kw [111,102],kw [111,117,116,112,117,116],kw [116,104,101,110],kw [118,97,108]]
def wordsM:List (Bs×Value):=wordsL.map (fun s=>(s,.int .i64 5))
theorem z1d {s:Bs} {v:Value} (h:jJ wordsM s=some v):v=.int .i64 ((5:Nat):Int):=by
 have:∀(l:List Bs),jJ (l.map (fun s=>(s,Value.int .i64 5))) s=some v->v=.int .i64 ((5:Nat):Int):=by
  intro l
  induction l with
  | nil=>intro h;simp [jJ] at h
  | cons x l a=>
   intro h
   simp only [List.map_cons,jJ] at h
   split at h
   ·simp only [Option.some.injEq] at h;rw [<- h];rfl
   ·exact a h
 exact this _ h
def z8y (s:Bs):Bool:=(jJ wordsM s).isSome
structure Tok where
 kind:Int
 num:Int
 text:Bs
 org:Nat
def y0x (k:Tok):Value:=.agg #[.int .i64 k.kind,.int .i64 k.num,.string k.text,.int .i64 k.org]
def vO (t:Bs) (pos:Nat) (kind:Int) (n:Nat):Except (Nat×Int) Tok:=if 24 < n then .error (pos,2) else .ok ⟨kind,0,t.extract pos (pos+n),pos⟩
def jE (t:Bs) (pos:Nat):Nat :=
 if yW t (pos+qB qQ t t.size pos)=39 then
  (if 0 < qB yU t t.size (pos+(qB qQ t t.size pos+1)) then qB qQ t t.size pos+(1+qB yU t t.size (pos+(qB qQ t t.size pos+1))) else qB qQ t t.size pos)
 else qB qQ t t.size pos
def kK (t:Bs) (pos:Nat) (kind:Int):Except (Nat×Int) Tok :=
 if 24 < jE t pos then .error (pos,2)
 else .ok ⟨if z8y (t.extract pos (pos+jE t pos)) then 5 else kind,0,t.extract pos (pos+jE t pos),pos⟩
theorem z9g {t:Bs} {pos n:Nat} {kd:Int} {q:Tok} (hq:vO t pos kd n=.ok q):¬24 < n/\q=⟨kd,0,t.extract pos (pos+n),pos⟩:=by
 unfold vO at hq
 split at hq
 ·cases hq
 ·rename_i h;simp only [Except.ok.injEq] at hq;exact ⟨h,hq.symm⟩
theorem j4g {t:Bs} {pos n:Nat} {kd:Int} {c:Nat×Int} (hq:vO t pos kd n=.error c):24 < n/\c=(pos,2):=by
 unfold vO at hq
 split at hq
 ·rename_i h;simp only [Except.error.injEq] at hq;exact ⟨h,hq.symm⟩
 ·cases hq
theorem gL {t:Bs} {pos n:Nat} {kd:Int} {q:Tok} (hq:vO t pos kd n=.ok q) (a:jJ wordsM q.text=none) (c:jE t pos=n):kK t pos kd=.ok q:=by
 obtain ⟨b,rfl⟩:=z9g hq
 simp only at a
 unfold kK
 rw [c,if_neg b]
 simp [z8y,a]
theorem gM {t:Bs} {pos n:Nat} {kd:Int} {q:Tok} {v:Value} (hq:vO t pos kd n=.ok q) (a:jJ wordsM q.text=some v) (c:jE t pos=n):kK t pos kd=.ok ⟨5,q.num,q.text,q.org⟩:=by
 obtain ⟨b,rfl⟩:=z9g hq
 simp only at a
 unfold kK
 rw [c,if_neg b]
 simp [z8y,a]
theorem z9i {t:Bs} {pos n:Nat} {kd:Int} {c:Nat×Int} (hq:vO t pos kd n=.error c) (b:jE t pos=n):kK t pos kd=.error c:=by
 obtain ⟨a,rfl⟩:=j4g hq
 unfold kK
 rw [b,if_pos a]
theorem tO {t:Bs} {i:Nat} (h:yW t i≠0):i < t.size:=by
 by_cases hi:i < t.size
 ·exact hi
 ·exact absurd (z4w hi) h
theorem q6u (t:Bs) (pos:Nat) (h:pos<=t.size):pos+jE t pos<=t.size:=by
 have b:=kU qQ t t.size pos h
 unfold jE
 split
 ·rename_i a
  have c:=tO (t:=t) (i:=pos+qB qQ t t.size pos) (by omega)
  have d:=kU yU t t.size (pos+(qB qQ t t.size pos+1)) (by omega)
  split
  ·omega
  ·omega
 ·omega
end Go.Sw

namespace Go.Sw
open Go.Proofs
def Tabs (Φ:Fz):Prop:=∀w,Sees Φ [] w->Lib.TabIs Tryz.prog w "internal/strconv.uint64pow10" .u64 Lib.pow10Tab
theorem Tabs.mono {Φ Ψ:Fz} (h:Tabs Φ) (hl:Φ.Le Ψ):Tabs Ψ:=fun w a=>h w ⟨fun b o hb=>a.fz b o (hl.obj b o hb),by simp⟩
def ErrAt (Φ:Fz) (g:Nat):Prop:=∃v,At Φ ⟨g,0,none⟩ [v]/\(v=.nilIface∨∃t p,v=.iface t p)
theorem ErrAt.mono {Φ Ψ:Fz} {g:Nat} (h:ErrAt Φ g) (hl:Φ.Le Ψ):ErrAt Ψ g:=let ⟨v,a,b⟩:=h;⟨v,a.mono hl,b⟩
structure Glob (Φ:Fz):Prop where
 maxLen:∃m,At Φ ⟨0,0,none⟩ [.int .i64 m]
 tabs:Tabs Φ
 err4:ErrAt Φ 2
 err5:ErrAt Φ 3
theorem Glob.mono {Φ Ψ:Fz} (h:Glob Φ) (hl:Φ.Le Ψ):Glob Ψ:=⟨let ⟨m,N⟩:=h.maxLen;⟨m,N.mono hl⟩,h.tabs.mono hl,h.err4.mono hl,h.err5.mono hl⟩
def has (l:List Bs) (s:Bs):Bool:=l.any (fun x=>decide (x=s))
end Go.Sw

namespace Go.Sw
section
variable {α:Type}
def yC:List (Bs×α)->Bs->Option α
 | [],_=>none
 | (k,x)::l,s=>if s=k then some x else yC l s
def qJ:List (Bs×α)->Bs->α->List (Bs×α)
 | [],s,x=>[(s,x)]
 | (k,y)::l,s,x=>if s=k then (k,x)::l else (k,y)::qJ l s x
variable {R R':Value->α->Prop} {m:List (Bs×Value)} {l:List (Bs×α)}
end
structure Maker where
 data:Bs
 con:Con
def RMaker (Φ:Fz) (cs:List Value) (x:Maker):Prop:=∃b,cs=.string x.data::b/\RCon Φ b x.con
theorem RMaker.mono (Φ Ψ:Fz) (c:List Value) (x:Maker) (hl:Φ.Le Ψ) (h:RMaker Φ c x):RMaker Ψ c x:=let ⟨b,a,d⟩:=h;⟨b,a,RCon.mono _ _ _ _ hl d⟩
structure Table where
 core:Core
 datas:List (Bs×Data)
 cons:List (Bs×Maker)
 funs:List (Bs×Fun)
 inputs:List (Bs×Bs)
end Go.Sw

namespace Go.Sw
open Go.Proofs.Tryz
open Go.Proofs
theorem mixed:prog.follows .mixedOrders=true:=by kernel_rfl
theorem j8t:zG prog 209 0 0:=zA runUnderlying209 rfl sizeOf9 (by decide) rfl
theorem j8u:zG prog 209 1 1:=zA runUnderlying209 rfl sizeOf3 (by decide) rfl
theorem j8v:zG prog 209 2 2:=zA runUnderlying209 rfl sizeOf207 (by decide) rfl
theorem j9b:zG prog 287 0 0:=zA runUnderlying287 rfl sizeOf285 (by decide) rfl
theorem j9c:zG prog 287 1 1:=zA runUnderlying287 rfl sizeOf257 (by decide) rfl
theorem j8j:zG prog 180 1 1:=zA runUnderlying180 rfl sizeOf28 (by decide) rfl
theorem j8p:zG prog 204 0 0:=zA runUnderlying204 rfl sizeOf3 (by decide) rfl
theorem j8r:zG prog 204 2 2:=zA runUnderlying204 rfl sizeOf9 (by decide) rfl
theorem j8w:zG prog 232 0 0:=zA runUnderlying232 rfl sizeOf9 (by decide) rfl
theorem j8x:zG prog 232 1 1:=zA runUnderlying232 rfl sizeOf3 (by decide) rfl
theorem j8y:zG prog 235 0 0:=zA runUnderlying235 rfl sizeOf232 (by decide) rfl
theorem j8z:zG prog 235 1 2:=zA runUnderlying235 rfl sizeOf98 (by decide) rfl
theorem j9a:zG prog 235 2 3:=zA runUnderlying235 rfl sizeOf233 (by decide) rfl
set_option maxRecDepth 20000 in
theorem j0s:RowT prog 23 9 1 16:=⟨underlying23,⟨_,_,Tryz.type9,rfl,rfl,rfl,rfl⟩,by decide,by decide⟩
set_option maxRecDepth 20000 in
theorem cP:RowT prog 34 3 1 8:=⟨underlying34,⟨_,_,Tryz.type3,rfl,rfl,rfl,rfl⟩,by decide,by decide⟩
set_option maxRecDepth 20000 in
theorem rt_233:RowT prog 233 260 2 16:=⟨underlying233,⟨_,_,Tryz.type260,rfl,rfl,rfl,rfl⟩,by decide,by decide⟩
end Go.Sw

namespace Go.Sw
open Go.Proofs
end Go.Sw
