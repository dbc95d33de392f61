import GoSem.Instr.MapUpdate
import Derived.Lib.LaidTab
import Derived.Lib.ItoaNum
import Derived.Test.YtgkhcfjooiekkaaGreatDoorProg
import GoSem.Builtin.Delete
import Derived.Defers
import Derived.Lib.AtoiAll
import Derived.Lib.Replace
import Derived.Test.YtgkhcfjooiekkaaGreatDoorX00
set_option linter.unusedVariables false
set_option linter.unusedSimpArgs false
namespace Go.Sw
variable {P:Program} {n:Nat} {E:List (Nat×Value)} {D:List Deferred} {a:Act} {V Ψ:Fz} {K:List Res} {w:World}
variable {dst:Option Tmp} {ty:TypeId} {pos:String} {aft:Array Edge} {g:Option (Nat×Bool)}
variable {Kn:Value->World->Prop} {Qp:List PanicEntry->World->Prop}
def yV:List (Bs×Value)->Bs->Option Value
 | [],_=>none
 | (k,v)::m,s=>if s=k then some v else yV m s
def nX:List (Bs×Value)->Bs->Value->List (Bs×Value)
 | [],s,x=>[(s,x)]
 | (k,v)::m,s,x=>if s=k then (k,x)::m else (k,v)::nX m s x
def z8r:List (Bs×Value)->Bs->List (Bs×Value)
 | [],_=>[]
 | (k,v)::m,s=>if s=k then m else (k,v)::z8r m s
def MapAt (V:Fz) (b:Nat) (m:List (Bs×Value)):Prop:=∃es clock,V.obj b=some (.map es clock)/\MapOk es clock m
theorem MapAt.mono {b:Nat} {m:List (Bs×Value)} (h:MapAt V b m) (hl:V.Le Ψ):MapAt Ψ b m:=let ⟨es,c,h1,h2⟩:=h;⟨es,c,hl.obj _ _ h1,h2⟩
def oX:List (Bs×Value)->Bs->Nat->Option (Nat×Value)
 | [],_,_=>none
 | (k,v)::m,s,i=>if s=k then some (i,v) else oX m s (i+1)
theorem sP (s t:ByteArray):(s==t)=decide (s=t):=by
 show (s.data==t.data)=_
 rw [Bool.eq_iff_iff];simp
 constructor
 ·intro h;cases s;cases t;simp_all
 ·rintro rfl;rfl
theorem z5x:∀(es:List MapEntry) (m:List (Bs×Value)) (s:Bs) (i:Nat),es.map (fun e=>(e.key,e.val))=m.map (fun p=>(Value.string p.1,p.2)) ->
  Instr.findNow .string (.string s) es i=some (oX m s i)
 | [],[],_,_,_=>rfl
 | [],_::_,_,_,h=>by simp at h
 | _::_,[],_,_,h=>by simp at h
 | e::es,(k,v)::m,s,i,h=>by
  simp only [List.map_cons,List.cons.injEq,Prod.mk.injEq] at h
  obtain ⟨⟨h1,h2⟩,a⟩:=h
  simp only [Instr.findNow,h1,Instr.sameNow,sP,oX]
  by_cases O:s=k
  ·simp [O,h2]
  ·simp only [O,decide_false,if_false]
   exact z5x es m s (i+1) a
theorem q1q:∀(m:List (Bs×Value)) (s:Bs) (i:Nat),(oX m s i).map (·.2)=yV m s
 | [],_,_=>rfl
 | (k,v)::m,s,i=>by
  simp only [oX,yV]
  split
  ·rfl
  ·exact q1q m s (i+1)
theorem wX {kt:TypeId} (a:Under P kt .string) (e:Bool) (v:Value) (j:Nat):(Instr.checkKey e (j+1) kt v).run P w=.ok () w:=by
 simp [Instr.checkKey,Sem.run_bind,a w]
theorem nO {kt:TypeId} (a:Under P kt .string) {es:Array MapEntry} {m:List (Bs×Value)} (h:es.toList.map (fun e=>(e.key,e.val))=m.map (fun p=>(Value.string p.1,p.2))) (s:Bs) :
  (Instr.findKey kt (.string s) es.toList).run P w=.ok (oX m s 0) w:=by
 simp [Instr.findKey,Sem.run_bind,a w,z5x _ _ _ _ h]
def zK (ok:Bool) (z:Value):Option Value->Value
 | some v=>if ok then .tuple #[v,.bool true] else v
 | none=>if ok then .tuple #[z,.bool false] else z
theorem y6u {t kt et:TypeId} {b:Nat} {es:Array MapEntry} {clock:Nat} {m:List (Bs×Value)} {z:Value} (c:Under P t (.map kt et)) (a:Under P kt .string) (d:ZeroT P et z)
  (hb:w.heap[b]? = some (.map es clock)) (h:MapOk es clock m) (s:Bs) (ok:Bool) :
  (Instr.lookup t (.map (some b)) (.string s) ok).run P w=.ok (zK ok z (yV m s)) w:=by
 have h1:(getObj b).run P w=.ok (.map es clock) w:=by simp [getObj,Sem.run,hb]
 simp only [Instr.lookup,Sem.run_bind,c w,Result.andThen_ok,h1,Sem.run_pure,wX a,nO a h.eq]
 have:=q1q m s 0
 cases N:oX m s 0 with
 | none=>rw [N] at this;simp only [Option.map_none] at this;rw [<- this];simp [d w,zK]
 | some p=>rw [N] at this;simp only [Option.map_some] at this;rw [<- this];simp [zK]
theorem yC {t kt et:TypeId} {x y:Operand} {b:Nat} {m:List (Bs×Value)} {z:Value} {s:Bs} {ok:Bool} (e:Under P t (.map kt et)) (d:Under P kt .string) (h:ZeroT P et z)
  (J:EnvR n E D a) (N:Sees V K w) (f:ev E x=some (.map (some b))) (g:ev E y=some (.string s)) (c:MapAt V b m):Ok P a (.lookup t x y ok) ty w (zK ok z (yV m s)):=fun _ _ _ _=>by
 obtain ⟨es,clock,h1,h2⟩:=c
 simp only [execOp,J.ev f,J.ev g]
 simp [Sem.run_bind,y6u e d h (N.fz _ _ h1) h2]
theorem qG (i:Nat) {t kt et:TypeId} {x y:Operand} {b:Nat} {m:List (Bs×Value)} {z:Value} {s:Bs} {ok:Bool} (e:Under P t (.map kt et)) (d:Under P kt .string) (h:ZeroT P et z)
  (J:EnvR n E D a) (N:Sees V K w) (f:ev E x=some (.map (some b))) (g:ev E y=some (.string s)) (c:qH K i=some (.mp b m)):Ok P a (.lookup t x y ok) ty w (zK ok z (yV m s)):=fun _ _ _ _=>by
 obtain ⟨es,clock,h1,h2⟩:=N.own _ (yQ c)
 simp only [execOp,J.ev f,J.ev g]
 simp [Sem.run_bind,y6u e d h h1 h2]
theorem q5q {t kt et:TypeId} {x y:Operand} {z:Value} {s:Bs} {ok:Bool} (d:Under P t (.map kt et)) (b:Under P kt .string) (c:ZeroT P et z)
  (J:EnvR n E D a) (e:ev E x=some (.map none)) (f:ev E y=some (.string s)):Ok P a (.lookup t x y ok) ty w (zK ok z none):=fun _ _ _ _=>by
 simp only [execOp,J.ev e,J.ev f]
 simp only [Instr.lookup,Sem.run_bind,d w,Result.andThen_ok,Sem.run_pure,wX b,Instr.findKey,b w,Instr.findNow,c w,bind_pure_comp,Sem.run_map]
 cases ok <;> simp [zK,Sem.run_bind,Instr.findNow,c w]
theorem q6x {t:TypeId} (N:Mem V K w) (k:∀b w',Mem V (.mp b []::K) w'->Kn (.map (some b)) w'):Oper.eff P ⟨dst,.makeMap t none,ty,pos,aft,g⟩ a w Kn Qp:=by
 unfold Oper.eff
 have:(execOp a.eval ⟨dst,.makeMap t none,ty,pos,aft,g⟩).run P w=.ok (.value (.map (some w.heap.size))) { w with heap:=w.heap.push (.map #[] 0) }:=by
  simp [execOp,Instr.makeMap]
 rw [this]
 refine k _ _ (N.more rfl rfl (fun b hb=>cY hb) ⟨#[],0,by simp,by simp,by simp,by simp⟩ (by simp [Res.foot]))
theorem j6z:∀(m:List (Bs×Value)) (s:Bs) (v:Value) (j:Nat),nX m s v=match oX m s j with | none=>m++[(s,v)] | some (i,_)=>m.set (i - j) (s,v)
 | [],_,_,_=>rfl
 | (k,x)::m,s,v,j=>by
  simp only [nX,oX]
  split
  ·subst_vars;simp
  ·have:=j6z m s v (j+1)
   rw [this]
   have a:∀(m:List (Bs×Value)) (j i:Nat) (y:Value),oX m s j=some (i,y)->j<=i:=by
    intro m
    induction m with
    | nil=>intro j i y h;simp [oX] at h
    | cons p m b=>
     intro j i y h
     obtain ⟨k,x⟩:=p
     simp only [oX] at h
     split at h
     ·simp only [Option.some.injEq,Prod.mk.injEq] at h;omega
     ·have:=b (j+1) i y h;omega
   cases N:oX m s (j+1) with
   | none=>simp
   | some p=>
    obtain ⟨i,y⟩:=p
    have h1:=a m (j+1) i y N
    have e:i - j=(i - (j+1))+1:=by omega
    simp only [e,List.set_cons_succ]
theorem y5n:∀(m:List (Bs×Value)) (s:Bs) (j i:Nat) (y:Value),oX m s j=some (i,y)->m[i - j]? = some (s,y)/\j<=i
 | [],_,_,_,_,h=>by simp [oX] at h
 | (k,x)::m,s,j,i,y,h=>by
  simp only [oX] at h
  split at h
  ·simp only [Option.some.injEq,Prod.mk.injEq] at h
   obtain ⟨rfl,rfl⟩:=h;subst_vars;simp
  ·obtain ⟨h1,h2⟩:=y5n m s (j+1) i y h
   have e:i - j=(i - (j+1))+1:=by omega
   exact ⟨by rw [e];simpa using h1,by omega⟩
theorem y8v (i:Nat) {t kt et:TypeId} {x y z:Operand} {b:Nat} {m:List (Bs×Value)} {s:Bs} {v:Value} (X:Under P t (.map kt et)) (T:Under P kt .string)
  (J:EnvR n E D a) (N:Mem V K w) (F:ev E x=some (.map (some b))) (Y:ev E y=some (.string s)) (Z:ev E z=some v) (R:qH K i=some (.mp b m))
  (k:∀w',Mem V (wI K i (.mp b (nX m s v))) w'->Kn undef w'):Oper.eff P ⟨dst,.mapUpdate t x y z,ty,pos,aft,g⟩ a w Kn Qp:=by
 obtain ⟨es,clock,hb,f⟩:=N.own _ (yQ R)
 have h1:(getObj b).run P w=.ok (.map es clock) w:=by simp [getObj,Sem.run,hb]
 have L:b < w.heap.size:=(Array.getElem?_eq_some_iff.1 hb).1
 have u:∀o,(setObj b o).run P w=.ok () { w with heap:=w.heap.setIfInBounds b o }:=fun o=>by simp only [setObj,Sem.run,hb]
 have fin:∀es' clock',MapOk es' clock' (nX m s v)->Mem V (wI K i (.mp b (nX m s v))) { w with heap:=w.heap.setIfInBounds b (.map es' clock') }:=fun es' clock' h=>
  N.upd R rfl rfl (fun c S M=>by simp only;rw [Array.getElem?_setIfInBounds_ne (fun e=>M (by simp [Res.foot,e]))]) ⟨es',clock',by simp [L],h⟩ (.inl rfl)
 unfold Oper.eff
 simp only [execOp,J.ev F,J.ev Y,J.ev Z,Instr.mapUpdate,Sem.run_bind,X w,Result.andThen_ok,h1,wX T,nO T f.eq]
 have d:=j6z m s v 0
 cases C:oX m s 0 with
 | none=>
  rw [C] at d
  simp only at d
  simp only [u,Result.andThen_ok,Sem.run_pure,pO]
  refine k _ (fin _ _ ⟨?_,?_,?_⟩)
  ·rw [d];simp [f.eq]
  ·intro e J
   simp only [Array.toList_push,List.mem_append,List.mem_singleton] at J
   rcases J with J | rfl
   ·have:=f.old e J;omega
   ·simp
  ·simp only [Array.toList_push,List.map_append,List.map_cons,List.map_nil]
   rw [List.nodup_append]
   refine ⟨f.nodup,by simp,fun b hb c S U=>?_⟩
   simp only [List.mem_singleton] at S
   obtain ⟨e,J,rfl⟩:=List.mem_map.1 hb
   have:=f.old e J
   omega
 | some p=>
  obtain ⟨j,y⟩:=p
  rw [C] at d
  simp only [Nat.sub_zero] at d
  obtain ⟨H,_⟩:=y5n m s 0 j y C
  simp only [Nat.sub_zero] at H
  have l:es.toList[j]?.map (fun e=>(e.key,e.val))=some (Value.string s,y):=by
   rw [<- List.getElem?_map,f.eq,List.getElem?_map,H];rfl
  obtain ⟨e,A,G⟩:∃e,es[j]? = some e/\e.key=.string s:=by
   cases h:es[j]? with
   | none=>
    have h':es.toList[j]? = none:=by simpa using h
    rw [h'] at l;cases l
   | some e=>
    have h':es.toList[j]? = some e:=by simpa using h
    rw [h'] at l;simp only [Option.map_some,Option.some.injEq,Prod.mk.injEq] at l;exact ⟨e,rfl,l.1⟩
  have I:(Instr.keyThatStays (((es[j]?).map (·.key)).getD (.string s)) (.string s)).run P w=.ok (.string s) w:=by
   simp [A,G,Instr.keyThatStays,Instr.sameBits,sP]
  simp only [Sem.run_bind,I,u,Result.andThen_ok,Sem.run_pure,pO]
  have W:j < es.size:=(Array.getElem?_eq_some_iff.1 A).1
  have B:(es.modify j fun e=>{ e with key:=Value.string s,val:=v }).toList=es.toList.modify j (fun e=>{ e with key:=Value.string s,val:=v }):=by simp
  refine k _ (fin _ _ ⟨?_,?_,?_⟩)
  ·rw [B,d]
   apply List.ext_getElem?
   intro q
   have hq:es.toList[q]?.map (fun e=>(e.key,e.val))=m[q]?.map (fun p=>(Value.string p.1,p.2)):=by rw [<- List.getElem?_map,f.eq,List.getElem?_map]
   simp only [List.getElem?_map,List.getElem?_modify,List.getElem?_set]
   by_cases r:j=q
   ·subst r
    have hml':j < m.length:=(List.getElem?_eq_some_iff.1 H).1
    have h':es.toList[j]? = some e:=by simpa using A
    simp [h',hml']
   ·have hq':=hq
    simp only [Array.getElem?_toList] at hq'
    simp [r,hq']
  ·intro x F
   rw [B] at F
   obtain ⟨q,hq⟩:=List.mem_iff_getElem?.1 F
   rw [List.getElem?_modify] at hq
   cases hz':es.toList[q]? with
   | none=>rw [hz'] at hq;simp at hq
   | some e'=>
    rw [hz'] at hq
    have hb':=f.old e' (mgQ hz')
    have Q:=Option.some.inj hq
    rw [<- Q]
    show (if j=q then _ else _:MapEntry).born < clock
    by_cases r:j=q
    ·rw [if_pos r];exact hb'
    ·rw [if_neg r];exact hb'
  ·rw [B]
   have:(es.toList.modify j (fun e=>{ e with key:=Value.string s,val:=v })).map (·.born)=es.toList.map (·.born):=by
    apply List.ext_getElem?
    intro q
    simp only [List.getElem?_map,List.getElem?_modify]
    cases es.toList[q]? with
    | none=>simp
    | some e'=>simp;split <;> rfl
   rw [this];exact f.nodup
end Go.Sw

namespace Go.Sw
noncomputable def Ex.sz (e:Ex):Nat:=SizeOf.sizeOf e
noncomputable def Val.sz (e:Val):Nat:=SizeOf.sizeOf e
theorem Ex.lt_args {e x:Ex} (h:x∈e.args):x.sz < e.sz:=by
 cases e with
 | mk k n s args arms=>
  have:=List.sizeOf_lt_of_mem (show x∈args from h)
  simp only [Ex.sz,Ex.mk.sizeOf_spec];omega
theorem Ex.lt_arms {e:Ex} {a:Arm} (h:a∈e.arms):a.body.sz < e.sz:=by
 cases e with
 | mk k n s args arms=>
  have:=List.sizeOf_lt_of_mem (show a∈arms from h)
  cases a with
  | mk c v b=>simp only [Ex.sz,Ex.mk.sizeOf_spec,Arm.mk.sizeOf_spec,Arm.body] at *;omega
theorem Val.lt_args {e x:Val} (h:x∈e.args):x.sz < e.sz:=by
 cases e with
 | mk c n args=>
  have:=List.sizeOf_lt_of_mem (show x∈args from h)
  simp only [Val.sz,Val.mk.sizeOf_spec];omega
mutual
def jJ:Ex->Int->Bool×Int
 | .mk _ _ _ args arms,l=>if l - 1 < 0 then (true,l - 1) else
  match meass args (l - 1) with
  | (true,q)=>(true,q)
  | (false,q)=>measa arms q
def meass:List Ex->Int->Bool×Int
 | [],l=>(false,l)
 | e::es,l=>match jJ e l with
  | (true,q)=>(true,q)
  | (false,q)=>meass es q
def measa:List Arm->Int->Bool×Int
 | [],l=>(false,l)
 | .mk _ vs b::es,l=>if 16 < vs.length then (true,l) else match jJ b l with
  | (true,q)=>(true,q)
  | (false,q)=>measa es q
end
mutual
theorem aI:∀(e:Ex) (l:Int),(jJ e l).1=false->0<=(jJ e l).2/\(jJ e l).2<=l
 | .mk _ _ _ args arms,l=>by
  intro h
  simp only [jJ] at h ⊢
  split at h
  ·cases h
  ·rename_i hl
   simp only [if_neg hl]
   have h1:=meass_le args (l - 1)
   cases N:meass args (l - 1) with
   | mk b q=>
    rw [N] at h h1
    cases b with
    | true=>cases h
    | false=>
     have h2:=measa_le arms q h (by have:=h1 rfl (by omega);simp only at this;omega)
     have:=h1 rfl (by omega)
     simp only at this h2 ⊢
     omega
theorem meass_le:∀(es:List Ex) (l:Int),(meass es l).1=false->0<=l->0<=(meass es l).2/\(meass es l).2<=l
 | [],l=>by intro _ h;simp [meass,h]
 | e::es,l=>by
  intro h d
  simp only [meass] at h ⊢
  have h1:=aI e l
  cases N:jJ e l with
  | mk b q=>
   rw [N] at h h1
   cases b with
   | true=>cases h
   | false=>
    have a:=h1 rfl
    have h2:=meass_le es q h (by simp only at a;omega)
    simp only at a h2 ⊢
    omega
theorem measa_le:∀(es:List Arm) (l:Int),(measa es l).1=false->0<=l->0<=(measa es l).2/\(measa es l).2<=l
 | [],l=>by intro _ h;simp [measa,h]
 | .mk _ vs b::es,l=>by
  intro h d
  simp only [measa] at h ⊢
  split at h
  ·cases h
  ·rename_i f
   simp only [if_neg f]
   have h1:=aI b l
   cases N:jJ b l with
   | mk c q=>
    rw [N] at h h1
    cases c with
    | true=>cases h
    | false=>
     have a:=h1 rfl
     have h2:=measa_le es q h (by simp only at a;omega)
     simp only at a h2 ⊢
     omega
end
def z1n (arms:List Arm):Bool×Int->Bool×Int
 | (true,q)=>(true,q)
 | (false,q)=>measa arms q
theorem z6h (e:Ex) (l:Int):jJ e l=if l - 1 < 0 then (true,l - 1) else z1n e.arms (meass e.args (l - 1)):=by
 cases e with
 | mk k n s args arms=>
  simp only [jJ,Ex.args,Ex.arms]
  by_cases h:l - 1 < 0
  ·rw [if_pos h,if_pos h]
  ·rw [if_neg h,if_neg h]
   cases meass args (l - 1) with
   | mk b q=>cases b <;> rfl
theorem uJ (e:Ex) (es:List Ex) (l:Int):meass (e::es) l=if (jJ e l).1 then (true,(jJ e l).2) else meass es (jJ e l).2:=by
 simp only [meass]
 cases jJ e l with
 | mk b q=>cases b <;> rfl
theorem oQ (a:Arm) (es:List Arm) (l:Int):measa (a::es) l=if 16 < a.vars.length then (true,l) else if (jJ a.body l).1 then (true,(jJ a.body l).2) else measa es (jJ a.body l).2:=by
 cases a with
 | mk c vs b=>
  simp only [measa]
  change (if 16 < vs.length then _ else _)=(if 16 < vs.length then (true,l) else if (jJ b l).1 then (true,(jJ b l).2) else measa es (jJ b l).2)
  by_cases h:16 < vs.length
  ·rw [if_pos h,if_pos h]
  ·rw [if_neg h,if_neg h]
   cases jJ b l with
   | mk b q=>cases b <;> rfl
def gL:List Fun->Int->Bool
 | [],_=>false
 | f::fs,l=>decide (16 < f.params.length) || (jJ f.body l).1 || gL fs (jJ f.body l).2
def sH (d:Data):Bool:=decide (16 < d.cons.length) || d.cons.any (fun x=>decide (16 < x.fields.length))
def kO (c:Core):Bool :=
 decide (60 < c.datas.length) || decide (6 < c.inputs.length) || decide (300 < c.funs.length) || decide (6 < c.outputs.length) || c.datas.any sH || gL c.funs 6000
def yL:Bs:=⟨#[73,110,116]⟩
def inF (name:Bs) (s:Bs):Bool := !decide (s=yL) && !decide (s=name)
def dZ (name:Bs):List Con->Bool->Bool
 | [],ok=>ok
 | x::xs,ok=>dZ name xs (ok && !x.fields.any (inF name))
def mY (name:Bs):List Data->Int->Bool->Int×Bool
 | [],n,ok=>(n,ok)
 | d::ds,n,ok=>if d.name=name then mY name ds (IntKind.i64.wrap (n+1)) (dZ name d.cons ok) else mY name ds n ok
def xD (ds:List Data) (name:Bs):Bool :=
 if name=yL then true else decide ((mY name ds 0 true).1=1)&&(mY name ds 0 true).2
def strs (l:List Bs):List Value:=l.map .string
theorem yE (l m:List Bs):strs (l++m)=strs l++strs m:=by simp [strs]
theorem zZ (l:List Bs):(strs l).length=l.length:=by simp [strs]
theorem cR (l:List Bs):(strs l).all Value.oneCell'=true:=by simp [strs,Value.oneCell']
theorem chunks_str {V:Fz}:∀{l:List Bs} {cs:List Value},Chunks (RStr V) 1 cs l↔cs=strs l
 | [],cs=>by simp [Chunks,strs]
 | s::l,cs=>by
  simp only [Chunks,RStr]
  constructor
  ·rintro ⟨c,rest,rfl,_,rfl,a⟩
   have:=chunks_str.1 a
   subst this;rfl
  ·rintro rfl
   exact ⟨[.string s],strs l,rfl,rfl,rfl,chunks_str.2 rfl⟩
theorem SliceOf.strs {V:Fz} {v:Value} {l:List Bs}:SliceOf RStr V 1 v l↔Row V v 1 (strs l) :=
 ⟨fun ⟨_,h1,h2⟩=>chunks_str.1 h2▸h1,fun h=>⟨_,h,chunks_str.2 rfl⟩⟩
theorem y2h {P:Program} {t e:TypeId} {len k:Nat} {z:Value} {parts:List (Nat×Value)} {cs:List Value} (f:Under P t (.slice e)) (O:SizeT P e k) (g:ZeroT P e z) (d:Nat.ble (len * k) 16777216=true) (a:len * k≠0)
  (b:Instr.fill (fun i=>some (i * k,k)) ((List.range (len * k)).map (fun x=>z.cells[x % z.cells.size]!)).toArray parts=some cs.toArray):built P t parts len cs e:=fun w=>by
 have hn':¬len * k > 2 ^ 24:=by
  have:len * k<=16777216:=by simpa using d
  omega
 have c:(Array.range (len * k)).map (z.cells[· % z.cells.size]!)=((List.range (len * k)).map (fun x=>z.cells[x % z.cells.size]!)).toArray:=by
  apply Array.ext'
  simp
 simp only [Instr.buildSlice,Sem.run_bind,f w,O w,Result.andThen_ok,if_neg hn',if_neg a,g w,Sem.run_pure,c,b,newRow,run_newObj]
 simp [ob]
theorem z7n {P:Program} {t e:TypeId} {k:Nat} (a:Under P t (.slice e)) (O:SizeT P e k):built P t [] 0 [] e:=fun w=>by
 simp only [Instr.buildSlice,Sem.run_bind,a w,O w,Result.andThen_ok]
 have hr:Array.range 0=(#[]:Array Nat):=by simp
 simp [Instr.fill,newRow,ob,hr]
mutual
def yH:Ex->List Bs
 | .mk k _ s args arms=>(if k=6 then [s] else [])++bindPs args++bindPa arms
def bindPs:List Ex->List Bs
 | []=>[]
 | e::es=>yH e++bindPs es
def bindPa:List Arm->List Bs
 | []=>[]
 | .mk _ vs b::es=>vs++yH b++bindPa es
end
theorem dC (e:Ex):yH e=(if e.kind=6 then [e.name] else [])++bindPs e.args++bindPa e.arms:=by
 cases e;simp only [yH,Ex.args,Ex.arms];rfl
theorem qO (a:Arm) (es:List Arm):bindPa (a::es)=a.vars++yH a.body++bindPa es:=by
 cases a;rfl
theorem qJ {t:Bs} {i:Nat} (h:i < t.size):∃c,t[i]? = some c:=⟨t[i],by simp [h]⟩
def zC (t:Bs) (i:Nat):Nat:=match t[i]? with | some c=>c.toNat | none=>0
theorem zT {t:Bs} {i:Nat} {c:UInt8} (h:t[i]? = some c):zC t i=c.toNat:=by simp [zC,h]
theorem z9r {t:Bs} {i:Nat} (h:¬i < t.size):zC t i=0:=by
 have:t[i]? = none:=by simp;omega
 simp [zC,this]
def qK (c:Nat):Bool:=decide (97<=c)&&decide (c<=122)
def qT (c:Nat):Bool:=decide (65<=c)&&decide (c<=90)
def yD (c:Nat):Bool:=decide (48<=c)&&decide (c<=57)
def yN (c:Nat):Bool:=qK c || qT c || yD c || decide (c=95)
def xM (c:Nat):Bool:=decide (c=32) || decide (c=9) || decide (c=10) || decide (c=13)
def kS (s p:Bs):Bool:=decide (p.size<=s.size)&&decide (s.extract 0 p.size=p)
def yR (p:Nat->Bool) (t:Bs):Nat->Nat->Nat
 | 0,_=>0
 | f+1,i=>if i < t.size/\p (zC t i)=true then yR p t f (i+1)+1 else 0
theorem q2e (p:Nat->Bool) (t:Bs):∀(f g i:Nat),t.size<=i+f->t.size<=i+g->yR p t f i=yR p t g i
 | 0,0,_,_,_=>rfl
 | 0,g+1,i,h,_=>by simp only [yR];rw [if_neg (by omega)]
 | f+1,0,i,_,h=>by simp only [yR];rw [if_neg (by omega)]
 | f+1,g+1,i,h,h'=>by
  simp only [yR]
  split
  ·rw [q2e p t f g (i+1) (by omega) (by omega)]
  ·rfl
theorem xP (p:Nat->Bool) (t:Bs) (i:Nat):yR p t t.size i=if i < t.size/\p (zC t i)=true then yR p t t.size (i+1)+1 else 0:=by
 rw [q2e p t t.size (t.size+1) i (by omega) (by omega)]
 simp only [yR]
theorem kU (p:Nat->Bool) (t:Bs):∀(f i:Nat),i<=t.size->i+yR p t f i<=t.size
 | 0,i,h=>by simpa [yR] using h
 | f+1,i,h=>by
  simp only [yR]
  split
  ·rename_i a
   have:=kU p t f (i+1) (by omega)
   omega
  ·omega
end Go.Sw

namespace Go.Sw
variable {P:Program} {n:Nat} {E:List (Nat×Value)} {D:List Deferred} {a:Act} {V Ψ:Fz} {K:List Res} {w:World}
variable {Kn:Value->World->Prop} {Qp:List PanicEntry->World->Prop} {dst:Option Tmp} {ty:TypeId} {pos:String} {aft:Array Edge} {g:Option (Nat×Bool)}
def Out {ε α:Type} (r:Except ε α) (A:α->Prop) (B:ε->Prop):Prop:=match r with | .ok x=>A x | .error c=>B c
theorem z7z {α ε:Type} {f:FuncId} {xs:Array Operand} {ts:Array TypeId} {vs:List Value} {r:Except ε α} {X:α->Value} {C:ε->List PanicEntry} {b d:Fz} {KO:α->List Res} {KE:List Res}
  (J:EnvR n E D a) (l:evs E xs.toList=some vs) (j:∀args w,(callFunc f args).run P w=.ok (.enter f args) w)
  (i:Calls P f vs.toArray w (fun e w'=>Out r (fun x=>e=.returned (X x)/\Mem b (KO x) w') (fun c=>e=.panicked (C c)/\Mem d KE w')))
  (k:∀x w',r=.ok x->Mem b (KO x) w'->Kn (X x) w') (kp:∀c w',r=.error c->Mem d KE w'->Qp (C c) w') :
  Oper.eff P ⟨dst,.call { callee:=.value (.func f),args:=xs,argTypes:=ts },ty,pos,aft,g⟩ a w Kn Qp:=by
 refine aD J l j i (fun v w' h=>?_) (fun c w' h=>?_) (fun w' h=>?_)
 ·cases r with
  | ok x=>obtain ⟨h1,h2⟩:=h;cases h1;exact k _ _ rfl h2
  | error c=>obtain ⟨h1,_⟩:=h;cases h1
 ·cases r with
  | ok x=>obtain ⟨h1,_⟩:=h;cases h1
  | error c=>obtain ⟨h1,h2⟩:=h;cases h1;exact kp _ _ rfl h2
 ·cases r with
  | ok x=>obtain ⟨h1,_⟩:=h;cases h1
  | error c=>obtain ⟨h1,_⟩:=h;cases h1
theorem dK {md:Region.Mode} {kd:List Nat} {o:Oper} {B:Prop} (h:oN md kd o=false) (hl:oN md kd o=true):B:=by rw [h] at hl;cases hl
theorem vM {t:TypeId} {v:Value} (w:World):(Instr.panic (.iface t v)).run P w=.halt (.panic (.iface t v)) w:=rfl
theorem retcA {fn:Func} {R:Ending->World->Prop} {t T b k i:Nat} {cs:List Value} {c:TypeId} (J:EnvR n E [] a) (N:Sees V K w) (hr:fn.results=#[.cell t T]) (m:get E t=some (.pointer (some ⟨b,0,none⟩)))
  (l:qH K i=some (.blk b (ob cs c))) (e:AggT P T) (d:SizeT P T k) (hl:cs.length=k) (h:R (.returned (.agg cs.toArray)) w):bodyPost P fn R .ret a w:=by
 refine ⟨J.defs,.agg cs.toArray,?_,h⟩
 have f:∀j v,cs[j]? = some v->w.cell? ((⟨b,0,none⟩:Addr).add j)=some v:=fun j v g=>by
  have h1:=N.cell l j
  rw [z4n,g] at h1
  unfold Addr.add;split
  ·subst_vars;exact h1
  ·simpa using h1
 have h2:=run_loadCells_list (P:=P) (w:=w) ⟨b,0,none⟩ cs f
 rw [hl] at h2
 simp [results,hr,Array.getD_eq_getD_getElem?,J.env t _ m,asAddr,loadVar,e w,d w,h2]
theorem yY {fn:Func} {R:Ending->World->Prop} {c:List PanicEntry} (b:a.defers=[]) (h:R (.panicked c) w):bodyPost P fn R (.panic c) a w:=⟨b,h⟩
def wM (t:Bs) (org:Nat):Nat->Nat->Int->Except (Nat×Int) Nat
 | 0,_,_=>.error (org,12)
 | f+1,i,o=>
  if t.size<=i then .error (org,12) else
  if kS (t.extract i t.size) (⟨#[40,42]⟩:Bs) then (if 100<=o then .error (i,6) else wM t org f (i+2) (o+1)) else
  if kS (t.extract i t.size) (⟨#[42,41]⟩:Bs) then (if o - 1=0 then .ok (i+2) else wM t org f (i+2) (o - 1)) else
  wM t org f (i+1) o
theorem jM {t p:Bs} {i:Nat} (h:kS (t.extract i t.size) p=true):p.size<=t.size - i:=by
 simp only [kS,baQ,decide_eq_true_eq,ByteArray.size_extract] at h
 have:=h.1
 simp only [Nat.min_self] at this
 exact this
theorem cX (t:Bs) (org:Nat):∀(f g i:Nat) (o:Int),t.size < i+f->t.size < i+g->wM t org f i o=wM t org g i o
 | 0,0,_,_,_,_=>rfl
 | 0,g+1,i,o,h,_=>by simp only [wM];rw [if_pos (by omega)]
 | f+1,0,i,o,_,h=>by simp only [wM];rw [if_pos (by omega)]
 | f+1,g+1,i,o,h,h'=>by
  simp only [wM]
  rw [cX t org f g (i+2) (o+1) (by omega) (by omega),cX t org f g (i+2) (o - 1) (by omega) (by omega),cX t org f g (i+1) o (by omega) (by omega)]
def vO (t:Bs) (org i:Nat) (o:Int):Except (Nat×Int) Nat:=wM t org (t.size+1) i o
theorem nJ (t:Bs) (org i:Nat) (o:Int):vO t org i o =
  if t.size<=i then .error (org,12) else
  if kS (t.extract i t.size) (⟨#[40,42]⟩:Bs) then (if 100<=o then .error (i,6) else vO t org (i+2) (o+1)) else
  if kS (t.extract i t.size) (⟨#[42,41]⟩:Bs) then (if o - 1=0 then .ok (i+2) else vO t org (i+2) (o - 1)) else
  vO t org (i+1) o:=by
 unfold vO
 rw [cX t org (t.size+1) (t.size+2) i o (by omega) (by omega)]
 simp only [wM]
theorem pW (t:Bs) (org:Nat):∀(f i q:Nat) (o:Int),wM t org f i o=.ok q->i < q/\q<=t.size
 | 0,_,_,_,h=>by simp [wM] at h
 | f+1,i,q,o,h=>by
  simp only [wM] at h
  split at h
  ·cases h
  ·split at h
   ·split at h
    ·cases h
    ·have:=pW t org f _ _ _ h;omega
   ·split at h
    ·rename_i O
     have h2:=jM O
     have:(⟨#[42,41]⟩:Bs).size=2:=rfl
     split at h
     ·simp only [Except.ok.injEq] at h;omega
     ·have:=pW t org f _ _ _ h;omega
    ·have:=pW t org f _ _ _ h;omega
def sU (c:Nat×Int):List PanicEntry:=[{ v:=.iface 270 (.agg #[.int .i64 c.1,.int .i64 c.2]),recovered:=false }]
theorem z8b {α β ε:Type} {f:FuncId} {xs:Array Operand} {ts:Array TypeId} {vs:List Value} {r:Except ε α} {X:α->β->Value} {C:ε->List PanicEntry} {F1:α->β->Fz} {b:Fz} {KO:α->β->List Res} {KE:List Res} {G:α->β->Prop}
  (J:EnvR n E D a) (l:evs E xs.toList=some vs) (j:∀args w,(callFunc f args).run P w=.ok (.enter f args) w)
  (i:Calls P f vs.toArray w (fun e w'=>Out r (fun x=>∃y,e=.returned (X x y)/\G x y/\Mem (F1 x y) (KO x y) w') (fun c=>e=.panicked (C c)/\Mem b KE w')))
  (k:∀x y w',r=.ok x->G x y->Mem (F1 x y) (KO x y) w'->Kn (X x y) w') (kp:∀c w',r=.error c->Mem b KE w'->Qp (C c) w') :
  Oper.eff P ⟨dst,.call { callee:=.value (.func f),args:=xs,argTypes:=ts },ty,pos,aft,g⟩ a w Kn Qp:=by
 refine aD J l j i (fun v w' h=>?_) (fun c w' h=>?_) (fun w' h=>?_)
 ·cases r with
  | ok x=>obtain ⟨y,h1,h2,d⟩:=h;cases h1;exact k _ _ _ rfl h2 d
  | error c=>obtain ⟨h1,_⟩:=h;cases h1
 ·cases r with
  | ok x=>obtain ⟨y,h1,_⟩:=h;cases h1
  | error c=>obtain ⟨h1,h2⟩:=h;cases h1;exact kp _ _ rfl h2
 ·cases r with
  | ok x=>obtain ⟨y,h1,_⟩:=h;cases h1
  | error c=>obtain ⟨h1,_⟩:=h;cases h1
theorem z2p {β:Type} {f:FuncId} {xs:Array Operand} {ts:Array TypeId} {vs:List Value} {X:β->Value} {F1:β->Fz} {KO:β->List Res} {G:β->Prop}
  (J:EnvR n E D a) (j:evs E xs.toList=some vs) (i:∀args w,(callFunc f args).run P w=.ok (.enter f args) w)
  (d:Calls P f vs.toArray w (fun e w'=>∃y,e=.returned (X y)/\G y/\Mem (F1 y) (KO y) w'))
  (k:∀y w',G y->Mem (F1 y) (KO y) w'->Kn (X y) w') :
  Oper.eff P ⟨dst,.call { callee:=.value (.func f),args:=xs,argTypes:=ts },ty,pos,aft,g⟩ a w Kn Qp :=
 aD J j i d (fun v w' h=>by obtain ⟨y,h1,h2,b⟩:=h;cases h1;exact k _ _ h2 b) (fun c w' h=>by obtain ⟨y,h1,_⟩:=h;cases h1) (fun w' h=>by obtain ⟨y,h1,_⟩:=h;cases h1)
def z1q (t:Bs):Nat->Nat->Except (Nat×Int) Nat
 | 0,i=>.ok i
 | f+1,i=>
  if kS (t.extract (i+yR xM t t.size i) t.size) (⟨#[40,42]⟩:Bs)=true then
   match vO t (i+yR xM t t.size i) (i+yR xM t t.size i) 0 with
   | .error c=>.error c
   | .ok q=>z1q t f q
  else .ok (i+yR xM t t.size i)
theorem y6g (t:Bs):∀(f g i:Nat),i<=t.size->t.size < i+f->t.size < i+g->z1q t f i=z1q t g i
 | 0,_,i,a,h,_=>by omega
 | _+1,0,i,a,_,h=>by omega
 | f+1,g+1,i,a,h,h'=>by
  simp only [z1q]
  split
  ·cases b:vO t (i+yR xM t t.size i) (i+yR xM t t.size i) 0 with
   | error c=>rfl
   | ok q=>
    have:=pW _ _ _ _ _ _ b
    exact y6g t f g q this.2 (by omega) (by omega)
  ·rfl
def aY (t:Bs) (i:Nat):Except (Nat×Int) Nat:=z1q t (t.size+1) i
theorem y6e (t:Bs) (i:Nat) (h:i<=t.size):aY t i =
  if kS (t.extract (i+yR xM t t.size i) t.size) (⟨#[40,42]⟩:Bs)=true then
   match vO t (i+yR xM t t.size i) (i+yR xM t t.size i) 0 with
   | .error c=>.error c
   | .ok q=>aY t q
  else .ok (i+yR xM t t.size i):=by
 unfold aY
 rw [y6g t (t.size+1) (t.size+2) i h (by omega) (by omega)]
 simp only [z1q]
end Go.Sw

namespace Go.Sw
def kw (l:List UInt8):Bs:=⟨l.toArray⟩
def wordsL:List Bs:=[kw [97,110,100],kw [99,97,115,101],kw [100,97,116,97],kw [101,108,115,101],kw [101,110,100],kw [102,110],kw [102,117,110],kw [105,102],kw [105,110],kw [105,110,112,117,116],kw [108,101,116],kw [111,102],kw [111,117,116,112,117,116],kw [116,104,101,110],kw [118,97,108]]
def wordsM:List (Bs×Value):=wordsL.map (fun s=>(s,.int .i64 5))
theorem z5c {s:Bs} {v:Value} (h:yV wordsM s=some v):v=.int .i64 ((5:Nat):Int):=by
 have:∀(l:List Bs),yV (l.map (fun s=>(s,Value.int .i64 5))) s=some v->v=.int .i64 ((5:Nat):Int):=by
  intro l
  induction l with
  | nil=>intro h;simp [yV] at h
  | cons x l a=>
   intro h
   simp only [List.map_cons,yV] at h
   split at h
   ·simp only [Option.some.injEq] at h;rw [<- h];rfl
   ·exact a h
 exact this _ h
def z1g (s:Bs):Bool:=(yV wordsM s).isSome
structure Tok where
 kind:Int
 num:Int
 text:Bs
 org:Nat
def y7i (k:Tok):Value:=.agg #[.int .i64 k.kind,.int .i64 k.num,.string k.text,.int .i64 k.org]
def wF (t:Bs) (pos:Nat) (kind:Int) (n:Nat):Except (Nat×Int) Tok:=if 24 < n then .error (pos,2) else .ok ⟨kind,0,t.extract pos (pos+n),pos⟩
def qA (t:Bs) (pos:Nat):Nat :=
 if zC t (pos+yR yN t t.size pos)=39 then
  (if 0 < yR yD t t.size (pos+(yR yN t t.size pos+1)) then yR yN t t.size pos+(1+yR yD t t.size (pos+(yR yN t t.size pos+1))) else yR yN t t.size pos)
 else yR yN t t.size pos
def kP (t:Bs) (pos:Nat) (kind:Int):Except (Nat×Int) Tok :=
 if 24 < qA t pos then .error (pos,2)
 else .ok ⟨if z1g (t.extract pos (pos+qA t pos)) then 5 else kind,0,t.extract pos (pos+qA t pos),pos⟩
theorem tJ {t:Bs} {pos n:Nat} {kd:Int} {q:Tok} (hq:wF t pos kd n=.ok q):¬24 < n/\q=⟨kd,0,t.extract pos (pos+n),pos⟩:=by
 unfold wF at hq
 split at hq
 ·cases hq
 ·rename_i h;simp only [Except.ok.injEq] at hq;exact ⟨h,hq.symm⟩
theorem x0j {t:Bs} {pos n:Nat} {kd:Int} {c:Nat×Int} (hq:wF t pos kd n=.error c):24 < n/\c=(pos,2):=by
 unfold wF at hq
 split at hq
 ·rename_i h;simp only [Except.error.injEq] at hq;exact ⟨h,hq.symm⟩
 ·cases hq
theorem tL {t:Bs} {pos n:Nat} {kd:Int} {q:Tok} (hq:wF t pos kd n=.ok q) (a:yV wordsM q.text=none) (b:qA t pos=n):kP t pos kd=.ok q:=by
 obtain ⟨h1,rfl⟩:=tJ hq
 simp only at a
 unfold kP
 rw [b,if_neg h1]
 simp [z1g,a]
theorem tM {t:Bs} {pos n:Nat} {kd:Int} {q:Tok} {v:Value} (hq:wF t pos kd n=.ok q) (a:yV wordsM q.text=some v) (b:qA t pos=n):kP t pos kd=.ok ⟨5,q.num,q.text,q.org⟩:=by
 obtain ⟨h1,rfl⟩:=tJ hq
 simp only at a
 unfold kP
 rw [b,if_neg h1]
 simp [z1g,a]
theorem y5p {t:Bs} {pos n:Nat} {kd:Int} {c:Nat×Int} (hq:wF t pos kd n=.error c) (a:qA t pos=n):kP t pos kd=.error c:=by
 obtain ⟨h1,rfl⟩:=x0j hq
 unfold kP
 rw [a,if_pos h1]
theorem sY {t:Bs} {i:Nat} (h:zC t i≠0):i < t.size:=by
 by_cases a:i < t.size
 ·exact a
 ·exact absurd (z9r a) h
theorem y5o (t:Bs) (pos:Nat) (h:pos<=t.size):pos+qA t pos<=t.size:=by
 have h1:=kU yN t t.size pos h
 unfold qA
 split
 ·rename_i a
  have h2:=sY (t:=t) (i:=pos+yR yN t t.size pos) (by omega)
  have b:=kU yD t t.size (pos+(yR yN t t.size pos+1)) (by omega)
  split
  ·omega
  ·omega
 ·omega
end Go.Sw

namespace Go.Sw
open Go.Proofs
def Tabs (V:Fz):Prop:=∀w,Sees V [] w->Lib.TabIs Tryz.prog w "internal/strconv.uint64pow10" .u64 Lib.pow10Tab
theorem Tabs.mono {V Ψ:Fz} (h:Tabs V) (hl:V.Le Ψ):Tabs Ψ:=fun w a=>h w ⟨fun b o hb=>a.fz b o (hl.obj b o hb),by simp⟩
def ErrAt (V:Fz) (g:Nat):Prop:=∃v,At V ⟨g,0,none⟩ [v]/\(v=.nilIface∨∃t p,v=.iface t p)
theorem ErrAt.mono {V Ψ:Fz} {g:Nat} (h:ErrAt V g) (hl:V.Le Ψ):ErrAt Ψ g:=let ⟨v,h1,h2⟩:=h;⟨v,h1.mono hl,h2⟩
structure Glob (V:Fz):Prop where
 maxLen:∃m,At V ⟨0,0,none⟩ [.int .i64 m]
 tabs:Tabs V
 err4:ErrAt V 4
 err5:ErrAt V 5
theorem Glob.mono {V Ψ:Fz} (h:Glob V) (hl:V.Le Ψ):Glob Ψ:=⟨let ⟨m,N⟩:=h.maxLen;⟨m,N.mono hl⟩,h.tabs.mono hl,h.err4.mono hl,h.err5.mono hl⟩
def jG (l:List Bs):List (Bs×Value):=l.foldl (fun m s=>nX m s (.bool true)) []
theorem uU (l:List Bs) (s:Bs):jG (l++[s])=nX (jG l) s (.bool true):=by simp [jG]
theorem x0l (m:List (Bs×Value)) (k s:Bs) (v:Value):yV (nX m k v) s=if s=k then some v else yV m s:=by
 induction m with
 | nil=>simp [nX,yV]
 | cons p m a=>
  obtain ⟨q,x⟩:=p
  simp only [nX]
  split
  ·subst_vars;simp only [yV]
   split <;> rfl
  ·simp only [yV,a]
   by_cases h1:s=q
   ·subst h1
    rename_i h2
    rw [if_pos rfl,if_pos rfl,if_neg (fun e=>h2 e.symm)]
   ·rw [if_neg h1,if_neg h1]
def has (l:List Bs) (s:Bs):Bool:=l.any (fun x=>decide (x=s))
theorem x5b (l:List Bs) (x s:Bs):has (l++[x]) s=(has l s || decide (x=s)):=by simp [has]
theorem q2i (l:List Bs) (s:Bs):yV (jG l) s=if has l s then some (Value.bool true) else none:=by
 have:∀(l m:List Bs) (acc:List (Bs×Value)),(∀s,yV acc s=if has m s then some (Value.bool true) else none)->∀s,yV (l.foldl (fun m s=>nX m s (.bool true)) acc) s=if has (m++l) s then some (Value.bool true) else none:=by
  intro l
  induction l with
  | nil=>intro m acc h s;simpa using h s
  | cons x l b=>
   intro m acc h s
   simp only [List.foldl_cons]
   have:=b (m++[x]) (nX acc x (.bool true)) (fun s=>by
    rw [x0l,h,x5b]
    by_cases a:s=x
    ·simp [a]
    ·have hx':¬x=s:=fun e=>a e.symm
     simp [a,hx']) s
   simpa using this
 have h:=this l [] [] (fun s=>by simp [yV,has]) s
 simpa [jG] using h
theorem z6w {l:List Bs} {s:Bs} {v:Value} (h:yV (jG l) s=some v):v=.bool true/\has l s=true:=by
 rw [q2i] at h
 split at h
 ·simp only [Option.some.injEq] at h;exact ⟨h.symm,by assumption⟩
 ·cases h
theorem z6v {l:List Bs} {s:Bs} (h:yV (jG l) s=none):has l s=false:=by
 rw [q2i] at h
 split at h
 ·cases h
 ·simpa using (by assumption:¬has l s=true)
def pK (nm:Bs->Bool):List Bs->List Bs->Bool
 | _,[]=>true
 | ds,s::l=>nm s && !has ds s&&pK nm (ds++[s]) l
end Go.Sw

namespace Go.Sw
section
variable {α:Type}
def zW:List (Bs×α)->Bs->Option α
 | [],_=>none
 | (k,x)::l,s=>if s=k then some x else zW l s
def nW:List (Bs×α)->Bs->α->List (Bs×α)
 | [],s,x=>[(s,x)]
 | (k,y)::l,s,x=>if s=k then (k,x)::l else (k,y)::nW l s x
def vI (m:List (Bs×Value)) (s:Bs) (v:Value):List (Bs×Value):=match yV m s with | some _=>m | none=>nX m s v
def jD (l:List (Bs×α)) (s:Bs) (x:α):List (Bs×α):=match zW l s with | some _=>l | none=>nW l s x
inductive MapRel (R:Value->α->Prop):List (Bs×Value)->List (Bs×α)->Prop
 | nil:MapRel R [] []
 | cons {k v x m l}:R v x->MapRel R m l->MapRel R ((k,v)::m) ((k,x)::l)
variable {R R':Value->α->Prop} {m:List (Bs×Value)} {l:List (Bs×α)}
theorem MapRel.mono (h:MapRel R m l) (a:∀v x,R v x->R' v x):MapRel R' m l:=by
 induction h with
 | nil=>exact .nil
 | cons h1 _ b=>exact .cons (a _ _ h1) b
theorem MapRel.get (h:MapRel R m l) {s:Bs} {v:Value} (a:yV m s=some v):∃x,zW l s=some x/\R v x:=by
 induction h with
 | nil=>cases a
 | cons h1 _ c=>
  simp only [yV] at a
  simp only [zW]
  split at a
  ·rename_i O;simp only [Option.some.injEq] at a;subst a;exact ⟨_,by rw [if_pos O],h1⟩
  ·rename_i O
   obtain ⟨x,b,e2⟩:=c a
   exact ⟨x,by rw [if_neg O];exact b,e2⟩
theorem MapRel.none (h:MapRel R m l) {s:Bs} (a:yV m s=none):zW l s=none:=by
 induction h with
 | nil=>rfl
 | cons h1 _ b=>
  simp only [yV] at a
  simp only [zW]
  split at a
  ·cases a
  ·rename_i O;rw [if_neg O];exact b a
theorem MapRel.put (h:MapRel R m l) {s:Bs} {v:Value} {x:α} (a:R v x):MapRel R (nX m s v) (nW l s x):=by
 induction h with
 | nil=>exact .cons a .nil
 | cons h1 h2 b=>
  simp only [nX,nW]
  split
  ·exact .cons a h2
  ·exact .cons h1 b
theorem MapRel.once (h:MapRel R m l) {s:Bs} {v:Value} {x:α} (a:R v x):MapRel R (vI m s v) (jD l s x):=by
 unfold vI jD
 cases N:yV m s with
 | none=>rw [h.none N];exact h.put a
 | some u=>obtain ⟨y,e,_⟩:=h.get N;rw [e];exact h
end
def RVa {α:Type} (R:Fz->List Value->α->Prop) (V:Fz) (v:Value) (x:α):Prop:=∃cs,v=.agg cs.toArray/\R V cs x
def RVs (v:Value) (x:Bs):Prop:=v=.string x
structure Maker where
 data:Bs
 con:Con
def RMaker (V:Fz) (cs:List Value) (x:Maker):Prop:=∃b,cs=.string x.data::b/\RCon V b x.con
theorem RMaker.mono (V Ψ:Fz) (c:List Value) (x:Maker) (hl:V.Le Ψ) (h:RMaker V c x):RMaker Ψ c x:=let ⟨b,h1,h2⟩:=h;⟨b,h1,RCon.mono _ _ _ _ hl h2⟩
structure Table where
 core:Core
 datas:List (Bs×Data)
 cons:List (Bs×Maker)
 funs:List (Bs×Fun)
 inputs:List (Bs×Bs)
structure RTable (V:Fz) (p:Addr) (T:Table):Prop where
 ex:∃cs m1 m2 m3 m4 d1 d2 d3 d4,At V p (cs++[.map (some m1),.map (some m2),.map (some m3),.map (some m4)])/\cs.length=4/\RCore V cs T.core /\
  MapAt V m1 d1/\MapRel (RVa RData V) d1 T.datas/\MapAt V m2 d2/\MapRel (RVa RMaker V) d2 T.cons/\MapAt V m3 d3/\MapRel (RVa RFun V) d3 T.funs/\MapAt V m4 d4/\MapRel RVs d4 T.inputs
theorem RVa.mono {α:Type} {R:Fz->List Value->α->Prop} (a:∀V Ψ c x,V.Le Ψ->R V c x->R Ψ c x) {V Ψ:Fz} (hl:V.Le Ψ) (v:Value) (x:α) (h:RVa R V v x):RVa R Ψ v x:=let ⟨cs,h1,h2⟩:=h;⟨cs,h1,a _ _ _ _ hl h2⟩
theorem RTable.mono {V Ψ:Fz} {p:Addr} {T:Table} (h:RTable V p T) (hl:V.Le Ψ):RTable Ψ p T :=
 let ⟨cs,m1,m2,m3,m4,d1,d2,d3,d4,f,h1,h2,a,b,a2,c,a3,d,a4,e⟩:=h.ex
 ⟨cs,m1,m2,m3,m4,d1,d2,d3,d4,f.mono hl,h1,RCore.mono _ _ _ _ hl h2,a.mono hl,b.mono (RVa.mono RData.mono hl),a2.mono hl,c.mono (RVa.mono RMaker.mono hl),a3.mono hl,d.mono (RVa.mono RFun.mono hl),a4.mono hl,e⟩
def qX (e:Ex) (num name:Bool) (args arms:Int):Bool :=
 (num || decide (e.num=0))&&(name || decide (e.name=(⟨#[]⟩:Bs)))&&(decide (args < 0) || decide ((e.args.length:Int)=args))&&(decide (arms < 0) || decide ((e.arms.length:Int)=arms))
def pP (T:Table) (name:Bs):Bool:=(zW T.datas name).isSome || decide (name=yL)
end Go.Sw

namespace Go.Sw
abbrev Scope:=List (Bs×Bs)
def xA (s:Scope):List (Bs×Value):=s.map (fun p=>(p.1,.string p.2))
def y1d {α:Type}:List (Bs×α)->Bs->List (Bs×α)
 | [],_=>[]
 | (k,y)::l,s=>if s=k then l else (k,y)::y1d l s
theorem y7b:∀(s:Scope) (k:Bs),yV (xA s) k=(zW s k).map .string
 | [],_=>rfl
 | (q,x)::s,k=>by
  simp only [xA,List.map_cons,yV,zW]
  split
  ·rfl
  ·exact y7b s k
theorem x1n {s:Scope} {k:Bs} {v:Value} (h:yV (xA s) k=some v):∃y,zW s k=some y/\v=.string y:=by
 rw [y7b] at h
 cases hl:zW s k with
 | none=>rw [hl] at h;cases h
 | some y=>rw [hl] at h;simp only [Option.map_some,Option.some.injEq] at h;exact ⟨y,rfl,h.symm⟩
theorem x1m {s:Scope} {k:Bs} (h:yV (xA s) k=none):zW s k=none:=by
 rw [y7b] at h
 cases hl:zW s k with
 | none=>rfl
 | some y=>rw [hl] at h;cases h
theorem z1y:∀(s:Scope) (k x:Bs),nX (xA s) k (.string x)=xA (nW s k x)
 | [],_,_=>rfl
 | (q,y)::s,k,x=>by
  simp only [xA,List.map_cons,nX,nW]
  split
  ·rfl
  ·simp only [List.map_cons];exact congrArg _ (z1y s k x)
theorem z6x:∀(s:Scope) (k:Bs),z8r (xA s) k=xA (y1d s k)
 | [],_=>rfl
 | (q,y)::s,k=>by
  simp only [xA,List.map_cons,z8r,y1d]
  split
  ·rfl
  ·simp only [List.map_cons];exact congrArg _ (z6x s k)
def sNo:Bs:=⟨#[]⟩
def wG:Bs:=⟨#[66,111,111,108]⟩
def uL (e:Ex):Bs:=if qX e true false 0 0 then yL else sNo
def nS (e:Ex) (s:Scope):Bs:=if qX e false true 0 0 then (zW s e.name).getD sNo else sNo
def z1e (T:Table) (e:Ex):Bs:=if qX e false true 0 0 then (zW T.inputs e.name).getD sNo else sNo
def putAll:Scope->List Bs->List Bs->Scope
 | s,v::vs,f::fs=>putAll (nW s v f) vs fs
 | s,_,_=>s
def oH:Scope->List Bs->Scope
 | s,v::vs=>oH (y1d s v) vs
 | s,[]=>s
def opT (name:Bs):Bs :=
 if name=⟨#[43]⟩∨name=⟨#[45]⟩∨name=⟨#[42]⟩∨name=⟨#[47]⟩∨name=⟨#[37]⟩ then yL
 else if name=⟨#[60]⟩∨name=⟨#[61]⟩ then wG else sNo
mutual
def zH (T:Table):Ex->Scope->Bs×Scope
 | .mk kind num name args arms,s=>
  if kind=1 then (uL (.mk kind num name args arms),s)
  else if kind=2 then (nS (.mk kind num name args arms) s,s)
  else if kind=3 then (z1e T (.mk kind num name args arms),s)
  else if kind=4 then
   match zW T.cons name with
   | none=>(sNo,s)
   | some m=>if qX (.mk kind num name args arms) false true (-1) 0=true/\args.length=m.con.fields.length then ((if (allQ T args s m.con.fields).1 then m.data else sNo),(allQ T args s m.con.fields).2) else (sNo,s)
  else if kind=5 then
   match zW T.funs name with
   | none=>(sNo,s)
   | some f=>if qX (.mk kind num name args arms) false true (-1) 0=true/\args.length=f.params.length then ((if (allQ T args s (f.params.map Param.type)).1 then f.result else sNo),(allQ T args s (f.params.map Param.type)).2) else (sNo,s)
  else if kind=6 then (if qX (.mk kind num name args arms) false true 2 0 then letP T name args s else (sNo,s))
  else if kind=7 then
   if qX (.mk kind num name args arms) false false 1 (-1) then
    match zW T.datas (firstP T args s).1 with
    | none=>(sNo,(firstP T args s).2)
    | some d=>if d.cons.length=arms.length then splitP T arms d.cons true sNo (firstP T args s).2 else (sNo,(firstP T args s).2)
   else (sNo,s)
  else if kind=8 then
   if qX (.mk kind num name args arms) false true 2 0 then ((if (allQ T args s [yL,yL]).1 then opT name else sNo),(allQ T args s [yL,yL]).2) else (sNo,s)
  else (sNo,s)
def allQ (T:Table):List Ex->Scope->List Bs->Bool×Scope
 | [],s,_=>(true,s)
 | x::xs,s,ts=>
  if (zH T x s).1=sNo∨(zH T x s).1≠ts.headD sNo then (false,(zH T x s).2) else allQ T xs (zH T x s).2 ts.tail
def firstP (T:Table):List Ex->Scope->Bs×Scope
 | [],s=>(sNo,s)
 | a::_,s=>zH T a s
def restP (T:Table):List Ex->Scope->Bs×Scope
 | [],s=>(sNo,s)
 | _::l,s=>firstP T l s
def letP (T:Table) (name:Bs):List Ex->Scope->Bs×Scope
 | [],s=>(sNo,s)
 | a::l,s=>if (zH T a s).1=sNo then (sNo,(zH T a s).2) else
   ((firstP T l (nW (zH T a s).2 name (zH T a s).1)).1,y1d (firstP T l (nW (zH T a s).2 name (zH T a s).1)).2 name)
def splitP (T:Table):List Arm->List Con->Bool->Bs->Scope->Bs×Scope
 | [],_,_,out,s=>(out,s)
 | .mk con vars body::az,cs,first,out,s=>
  if con≠(cs.headD ⟨sNo,[]⟩).name∨vars.length≠(cs.headD ⟨sNo,[]⟩).fields.length then (sNo,s) else
  if (zH T body (putAll s vars (cs.headD ⟨sNo,[]⟩).fields)).1=sNo∨(first=false/\(zH T body (putAll s vars (cs.headD ⟨sNo,[]⟩).fields)).1≠out)
  then (sNo,oH (zH T body (putAll s vars (cs.headD ⟨sNo,[]⟩).fields)).2 vars)
  else splitP T az cs.tail false (zH T body (putAll s vars (cs.headD ⟨sNo,[]⟩).fields)).1 (oH (zH T body (putAll s vars (cs.headD ⟨sNo,[]⟩).fields)).2 vars)
end
theorem z7i (T:Table) (x:Ex) (xs:List Ex) (s:Scope) (t:Bs) (ts:List Bs):allQ T (x::xs) s (t::ts) =
  if (zH T x s).1=sNo∨(zH T x s).1≠t then (false,(zH T x s).2) else allQ T xs (zH T x s).2 ts:=rfl
def kJ (T:Table) (xs:List Ex) (s:Scope) (ts:List Bs):Bool×Scope:=if xs.length=ts.length then allQ T xs s ts else (false,s)
def z0r (T:Table) (e:Ex) (s:Scope):Bs×Scope :=
 match zW T.cons e.name with
 | none=>(sNo,s)
 | some m=>if qX e false true (-1) 0=true then ((if (kJ T e.args s m.con.fields).1 then m.data else sNo),(kJ T e.args s m.con.fields).2) else (sNo,s)
def aV (T:Table) (e:Ex) (s:Scope):Bs×Scope :=
 match zW T.funs e.name with
 | none=>(sNo,s)
 | some f=>if qX e false true (-1) 0=true then ((if (kJ T e.args s (f.params.map Param.type)).1 then f.result else sNo),(kJ T e.args s (f.params.map Param.type)).2) else (sNo,s)
def nZ (T:Table) (e:Ex) (s:Scope):Bs×Scope :=
 if qX e false true 2 0=true then ((if (kJ T e.args s [yL,yL]).1 then opT e.name else sNo),(kJ T e.args s [yL,yL]).2) else (sNo,s)
theorem z0d (T:Table) (e:Ex) (s:Scope) (h:e.kind=4):zH T e s=z0r T e s:=by
 cases e with
 | mk k n nm args arms=>
  simp only [Ex.kind] at h
  subst h
  simp only [zH,z0r,Ex.name,Ex.args,kJ]
  simp only [show ¬(4:Int)=1 by decide,show ¬(4:Int)=2 by decide,show ¬(4:Int)=3 by decide,if_false,if_true]
  cases zW T.cons nm with
  | none=>rfl
  | some m=>
   simp only
   by_cases hb:qX (.mk 4 n nm args arms) false true (-1) 0=true
   ·by_cases hl:args.length=m.con.fields.length
    ·simp [hb,hl]
    ·simp [hb,hl]
   ·simp [hb]
def truthsD:Data:=⟨wG,[⟨⟨#[70,97,108,115,101]⟩,[]⟩,⟨⟨#[84,114,117,101]⟩,[]⟩]⟩
end Go.Sw

namespace Go.Sw
variable {P:Program} {n:Nat} {E:List (Nat×Value)} {D:List Deferred} {a:Act} {V Ψ:Fz} {K:List Res} {w:World}
variable {dst:Option Tmp} {ty:TypeId} {pos:String} {aft:Array Edge} {g:Option (Nat×Bool)}
variable {Kn:Value->World->Prop} {Qp:List PanicEntry->World->Prop}
theorem q4o:∀(m:List (Bs×Value)) (s:Bs) (j:Nat),z8r m s=match oX m s j with | none=>m | some (i,_)=>m.eraseIdx (i - j)
 | [],_,_=>rfl
 | (k,x)::m,s,j=>by
  simp only [z8r,oX]
  split
  ·simp
  ·rw [q4o m s (j+1)]
   cases N:oX m s (j+1) with
   | none=>simp
   | some p=>
    obtain ⟨i,y⟩:=p
    obtain ⟨_,h1⟩:=y5n m s (j+1) i y N
    have e:i - j=(i - (j+1))+1:=by omega
    simp only [e,List.eraseIdx_cons_succ]
theorem tK {α β:Type} (f:α->β):∀(l:List α) (i:Nat),(l.eraseIdx i).map f=(l.map f).eraseIdx i
 | [],_=>rfl
 | _::_,0=>rfl
 | x::l,i+1=>by simp [tK f l i]
theorem j3u (i:Nat) {t kt et t2 ty:TypeId} {b:Nat} {m:List (Bs×Value)} {s:Bs} (u:Under P t (.map kt et)) (l:Under P kt .string) (N:Mem V K w) (r:qH K i=some (.mp b m)) :
  ∃w',(Builtin.delete_ #[t,t2] ty #[.map (some b),.string s]).run P w=.ok (.tuple #[]) w'/\Mem V (wI K i (.mp b (z8r m s))) w':=by
 obtain ⟨es,clock,hb,d⟩:=N.own _ (yQ r)
 have h1:(getObj b).run P w=.ok (.map es clock) w:=by simp [getObj,Sem.run,hb]
 have n:b < w.heap.size:=(Array.getElem?_eq_some_iff.1 hb).1
 have g:∀o,(setObj b o).run P w=.ok () { w with heap:=w.heap.setIfInBounds b o }:=fun o=>by simp only [setObj,Sem.run,hb]
 have fin:∀es',MapOk es' clock (z8r m s)->Mem V (wI K i (.mp b (z8r m s))) { w with heap:=w.heap.setIfInBounds b (.map es' clock) }:=fun es' h=>
  N.upd r rfl rfl (fun c v q=>by simp only;rw [Array.getElem?_setIfInBounds_ne (fun e=>q (by simp [Res.foot,e]))]) ⟨es',clock,by simp [n],h⟩ (.inl rfl)
 have a:=q4o m s 0
 cases f:oX m s 0 with
 | none=>
  rw [f] at a
  simp only at a
  refine ⟨_,?_,fin es (by rw [a];exact d)⟩
  simp [Builtin.delete_,Sem.run_bind,u w,h1,wX l,nO l d.eq,f,g]
 | some p=>
  obtain ⟨j,y⟩:=p
  rw [f] at a
  simp only [Nat.sub_zero] at a
  have hl:(es.eraseIdxIfInBounds j).toList=es.toList.eraseIdx j:=by simp
  have k:(es.toList.eraseIdx j).Sublist es.toList:=List.eraseIdx_sublist _ _
  refine ⟨_,?_,fin (es.eraseIdxIfInBounds j) ⟨by rw [hl,a,tK,tK,d.eq],fun e J=>d.old e (k.subset (hl▸J)),by rw [hl];exact d.nodup.sublist (k.map _)⟩⟩
  simp [Builtin.delete_,Sem.run_bind,u w,h1,wX l,nO l d.eq,f,g]
theorem y3z (i:Nat) {t kt et t2:TypeId} {x y:Operand} {b:Nat} {m:List (Bs×Value)} {s:Bs} (C:Under P t (.map kt et)) (v:Under P kt .string)
  (J:EnvR n E D a) (N:Mem V K w) (G:ev E x=some (.map (some b))) (H:ev E y=some (.string s)) (B:qH K i=some (.mp b m))
  (k:∀w',Mem V (wI K i (.mp b (z8r m s))) w'->Kn (.tuple #[]) w'):Oper.eff P ⟨dst,.call { callee:=.builtin .delete,args:=#[x,y],argTypes:=#[t,t2] },ty,pos,aft,g⟩ a w Kn Qp:=by
 obtain ⟨es,clock,hb,f⟩:=N.own _ (yQ B)
 have h1:(getObj b).run P w=.ok (.map es clock) w:=by simp [getObj,Sem.run,hb]
 have z:b < w.heap.size:=(Array.getElem?_eq_some_iff.1 hb).1
 have q:∀o,(setObj b o).run P w=.ok () { w with heap:=w.heap.setIfInBounds b o }:=fun o=>by simp only [setObj,Sem.run,hb]
 have fin:∀es',MapOk es' clock (z8r m s)->Mem V (wI K i (.mp b (z8r m s))) { w with heap:=w.heap.setIfInBounds b (.map es' clock) }:=fun es' h=>
  N.upd B rfl rfl (fun c I A=>by simp only;rw [Array.getElem?_setIfInBounds_ne (fun e=>A (by simp [Res.foot,e]))]) ⟨es',clock,by simp [z],h⟩ (.inl rfl)
 have d:=q4o m s 0
 have u:∃es',MapOk es' clock (z8r m s)/\(Builtin.delete_ #[t,t2] ty #[.map (some b),.string s]).run P w=.ok (.tuple #[]) { w with heap:=w.heap.setIfInBounds b (.map es' clock) }:=by
  cases l:oX m s 0 with
  | none=>
   rw [l] at d
   simp only at d
   refine ⟨es,by rw [d];exact f,?_⟩
   simp [Builtin.delete_,Sem.run_bind,C w,h1,wX v,nO v f.eq,l,q]
  | some p=>
   obtain ⟨j,y⟩:=p
   rw [l] at d
   simp only [Nat.sub_zero] at d
   refine ⟨es.eraseIdxIfInBounds j,?_,?_⟩
   ·have hl:(es.eraseIdxIfInBounds j).toList=es.toList.eraseIdx j:=by simp
    have r:(es.toList.eraseIdx j).Sublist es.toList:=List.eraseIdx_sublist _ _
    refine ⟨?_,fun e J=>f.old e (r.subset (hl▸J)),?_⟩
    ·rw [hl,d,tK,tK,f.eq]
    ·rw [hl];exact f.nodup.sublist (r.map _)
   ·simp [Builtin.delete_,Sem.run_bind,C w,h1,wX v,nO v f.eq,l,q]
 obtain ⟨es',h2,F⟩:=u
 unfold Oper.eff
 have:(execOp a.eval ⟨dst,.call { callee:=.builtin .delete,args:=#[x,y],argTypes:=#[t,t2] },ty,pos,aft,g⟩).run P w=.ok (.value (.tuple #[])) { w with heap:=w.heap.setIfInBounds b (.map es' clock) }:=by
  simp only [execOp,resolve,invoke,builtin,Sem.run_bind,Sem.run_pure,Result.andThen_ok,List.map_toArray,List.map_cons,List.map_nil,J.ev G,J.ev H,F]
 rw [this]
 exact k _ (fin _ h2)
end Go.Sw

namespace Go.Sw
theorem cE {e:Ex} {a b:Bool} {n:Nat} {r:Int} (h:qX e a b (n:Int) r=true):e.args.length=n:=by
 simp only [qX,baQ,Bool.or_eq_true,decide_eq_true_eq] at h
 omega
theorem jU {T:Table} {l:List Ex} {x:Ex} {s:Scope} (h:l[0]? = some x):firstP T l s=zH T x s:=by
 cases l with
 | nil=>simp at h
 | cons y l=>simp only [List.getElem?_cons_zero,Option.some.injEq] at h;subst h;rfl
def xL (T:Table) (e:Ex) (s:Scope):Bs×Scope :=
 if qX e false false 1 (-1)=true then
  match zW T.datas (firstP T e.args s).1 with
  | none=>(sNo,(firstP T e.args s).2)
  | some d=>if d.cons.length=e.arms.length then splitP T e.arms d.cons true sNo (firstP T e.args s).2 else (sNo,(firstP T e.args s).2)
 else (sNo,s)
def aA (T:Table) (a:Arm) (c:Con) (s:Scope):Bs×Scope:=((zH T a.body (putAll s a.vars c.fields)).1,oH (zH T a.body (putAll s a.vars c.fields)).2 a.vars)
theorem jN (T:Table) (a:Arm) (az:List Arm) (c:Con) (cs:List Con) (first:Bool) (out:Bs) (s:Scope):splitP T (a::az) (c::cs) first out s =
  if a.con≠c.name∨a.vars.length≠c.fields.length then (sNo,s) else
  if (aA T a c s).1=sNo∨(first=false/\(aA T a c s).1≠out) then (sNo,(aA T a c s).2)
  else splitP T az cs false (aA T a c s).1 (aA T a c s).2:=by
 cases a;rfl
theorem sJ (s:Scope) (v:Bs) (vs:List Bs) (f:Bs) (fs:List Bs):putAll s (v::vs) (f::fs)=putAll (nW s v f) vs fs:=rfl
theorem vS (s:Scope) (fs:List Bs):putAll s [] fs=s:=by cases fs <;> rfl
end Go.Sw

namespace Go.Sw
variable {P:Program}
theorem z4y {fr:Frame} {cs:List Frame} {w w':World} {d:Deferred} {ds:List Deferred} {b:Builtin} {ts:Array TypeId} {ty:TypeId} {k:Array Bool} {v:Value}
  (N:fr.mode≠.run) (f:fr.defers=d::ds) (g:d.target=.builtin b ts ty k) (e:(invoke d.target d.args).run P w=.ok (.value v) w') :
  step P (lone fr cs w)=.next (lone { fr with defers:=ds } cs w'):=by
 obtain ⟨t,a⟩:=d
 simp only at g e
 subst g
 refine step_lone_go ?_
 cases c:fr.mode with
 | run=>exact absurd c N
 | returning=>simp [stepG,unwind,callDeferred,c,f,e]
 | panicking chain=>simp [stepG,unwind,callDeferred,c,f,e]
def j7g (P:Program) (fn:Func) (R:Ending->World->Prop):Exit->Act->World->Prop
 | .ret,a,w=>(a.defers=[]/\∃x,(results fn a.tmps).run P w=.ok x w/\R (.returned x) w) ∨
   ∃d b ts ty k v w',a.defers=[d]/\d.target=.builtin b ts ty k/\(invoke d.target d.args).run P w=.ok (.value v) w'/\∃x,(results fn a.tmps).run P w'=.ok x w'/\R (.returned x) w'
 | _,_,_=>False
theorem y2l {f:FuncId} {fn:Func} {c:Code} {args:Array Value} {w:World} {R:Ending->World->Prop} (j:P.funcs[f]? = some fn) (hb:fn.body=some c)
  (h:c.wp P (j7g P fn R) { tmps:=args++Array.replicate (fn.ntmps - args.size) undef,defers:=[] } w):Calls P f args w R:=by
 intro cs
 let b:Frame:={ (default:Frame) with fn:=f,kind:=.normal }
 have henter:Frame.enter P f args .normal=b.at { tmps:=args++Array.replicate (fn.ntmps - args.size) undef,defers:=[] } [.code c]:=by
  simp [Frame.enter,Frame.at,j,hb,b]
 obtain ⟨e,a',w',hq,a⟩:=h b [] cs
 rw [<- henter] at a
 cases e with
 | ret=>
  obtain ⟨todo,O⟩:=a
  rcases hq with ⟨i,x,hr,g⟩ | ⟨d,bb,ts,ty,k,v,w'',i,n,m,x,hr,g⟩
  ·exact ⟨.returned x,w',_,g,O,rfl,rfl,i,rfl,fn,j,hr⟩
  ·have h1:=z4y (fr:={ b.at a' todo with mode:=.returning }) (cs:=cs) (by simp) i n m
   exact ⟨.returned x,w'',_,g,Steps.trans O (.one h1),rfl,rfl,rfl,rfl,fn,j,hr⟩
 | normal=>exact hq.elim
 | panic chain=>exact hq.elim
 | exit id=>exact hq.elim
 | goto l=>exact hq.elim
 | outgrown=>exact hq.elim
theorem enterB {n:Nat} {w:World} {f:FuncId} {fn:Func} {c:Code} {vs:List Value} {R:Ending->World->Prop} (d:P.funcs[f]? = some fn) (hb:fn.body=some c) (g:fn.ntmps=n) (hl:Nat.ble vs.length n=true)
  (k:∀Q:Exit->Act->World->Prop,(∀e a w,j7g P fn R e a w->Q e a w)->∀a,EnvR n (gO 0 vs) [] a->c.wp P Q a w):Calls P f vs.toArray w R:=by
 have hl':vs.length<=n:=by simpa using hl
 refine y2l d hb (k _ (fun _ _ _ h=>h) _ ⟨by simp [g];omega,fun t v i=>?_,rfl⟩)
 obtain ⟨_,h2⟩:=dA vs 0 t v i
 simp only [Nat.sub_zero] at h2
 have b:t < vs.length:=(List.getElem?_eq_some_iff.1 h2).1
 simp only [List.getElem?_toArray,Array.getElem?_append,List.size_toArray,b,↓reduceIte]
 exact h2
section
variable {n:Nat} {E:List (Nat×Value)} {D:List Deferred} {a:Act} {w:World} {ops:Array Oper} {rest:List Oper} {Q:Exit->Act->World->Prop} {ty:TypeId} {pos:String} {aft:Array Edge}
theorem z8x {b:Builtin} {xs:Array Operand} {ts:Array TypeId} {vs:List Value} (J:EnvR n E D a) (d:evs E xs.toList=some vs)
  (k:∀a fl,EnvR n E ({ target:=.builtin b ts ty fl,args:=vs.toArray }::D) a->wpList P ops Q rest a w) :
  wpList P ops Q (⟨none,.defer { callee:=.builtin b,args:=xs,argTypes:=ts },ty,pos,aft,none⟩::rest) a w:=by
 refine wpList_plain rfl fun L c=>?_
 unfold Oper.wp
 simp only [execOp,resolve,J.evsA d]
 exact c _ _ (k _ _ ⟨J.size,J.env,congrArg (List.cons _) J.defs⟩)
end
section
variable {n:Nat} {E:List (Nat×Value)} {a:Act} {w:World} {V:Fz} {K:List Res}
theorem ret1B {fn:Func} {R:Ending->World->Prop} {t:Nat} {v:Value} (J:EnvR n E [] a) (hr:fn.results=#[.tmp t]) (b:get E t=some v) (h:R (.returned v) w):j7g P fn R .ret a w :=
 .inl ⟨J.defs,v,by simp [results,hr,Array.getD_eq_getD_getElem?,J.env t v b],h⟩
theorem q5a (i:Nat) {fn:Func} {R:Ending->World->Prop} {t:Nat} {v:Value} {tm kt et t2 ty:TypeId} {fl:Array Bool} {b:Nat} {m:List (Bs×Value)} {s:Bs} (e:Under P tm (.map kt et)) (d:Under P kt .string)
  (J:EnvR n E [⟨.builtin .delete #[tm,t2] ty fl,#[.map (some b),.string s]⟩] a) (hr:fn.results=#[.tmp t]) (f:get E t=some v) (N:Mem V K w) (c:qH K i=some (.mp b m))
  (h:∀w',Mem V (wI K i (.mp b (z8r m s))) w'->R (.returned v) w'):j7g P fn R .ret a w:=by
 obtain ⟨w',h1,h2⟩:=j3u (t2:=t2) (ty:=ty) i e d N c (s:=s)
 exact .inr ⟨_,_,_,_,_,_,w',J.defs,rfl,(by simp only [invoke,builtin,Sem.run_bind,h1];rfl),v,by simp [results,hr,Array.getD_eq_getD_getElem?,J.env t v f],h w' h2⟩
end
def z4k (T:Table) (e:Ex) (s:Scope):Bs×Scope:=if qX e false true 2 0=true then letP T e.name e.args s else (sNo,s)
theorem q4l {T:Table} {nm:Bs} {l:List Ex} {x:Ex} {s:Scope} (h:l[0]? = some x) (a:(zH T x s).1=sNo):letP T nm l s=(sNo,(zH T x s).2):=by
 cases l with
 | nil=>simp at h
 | cons y l=>simp only [List.getElem?_cons_zero,Option.some.injEq] at h;subst h;simp only [letP];rw [if_pos a]
theorem y5j {T:Table} {nm:Bs} {l:List Ex} {x y:Ex} {s:Scope} (h:l[0]? = some x) (h1:l[1]? = some y) (a:¬(zH T x s).1=sNo) :
  letP T nm l s=((zH T y (nW (zH T x s).2 nm (zH T x s).1)).1,y1d (zH T y (nW (zH T x s).2 nm (zH T x s).1)).2 nm):=by
 cases l with
 | nil=>simp at h
 | cons z l=>
  simp only [List.getElem?_cons_zero,Option.some.injEq] at h;subst h
  simp only [letP];rw [if_neg a]
  simp only [List.getElem?_cons_succ] at h1
  rw [jU h1]
end Go.Sw

namespace Go.Sw
open Go.Proofs
def gJ:Nat->Nat->List UInt8
 | 0,_=>[]
 | f+1,n=>if n < 10 then [(48+n).toUInt8] else (48+n % 10).toUInt8::gJ f (n / 10)
def vP (n:Nat):List UInt8:=(gJ (n+1) n).reverse
def z0n (i:Int):List UInt8:=if i < 0 then 45::vP (-i).toNat else vP i.toNat
def mC (n:Int):Bs:=⟨(Lib.itoa n).toArray⟩
def y6p (s old new:Bs):Bs:=⟨(Lib.replace s.data.toList old.data.toList new.data.toList 1).toArray⟩
def oZ (s:Bs):Except Unit Int:=match Lib.atoiAll s.data.toList with
 | .ok v=>.ok v
 | _=>.error ()
def z5q (n:Int):Bs:=y6p (mC n) ⟨#[45]⟩ ⟨#[126]⟩
def uK (s:Bs):Option Int:=match oZ (y6p s ⟨#[126]⟩ ⟨#[45]⟩) with
 | .ok v=>if z5q v=s then some v else none
 | .error _=>none
def wH (s:Bs):Option Int:=match oZ s with
 | .ok v=>if mC v=s then some v else none
 | .error _=>none
def kV (t:Bs) (pos:Nat):Nat:=if zC t pos=126 then 1 else 0
def kF (t:Bs) (pos:Nat):Nat:=yR yD t t.size (pos+kV t pos)
def aL (t:Bs) (pos:Nat):Bs:=t.extract pos (pos+(kV t pos+kF t pos))
def z1o (t:Bs) (pos:Nat):Except (Nat×Int) Tok :=
 match uK (aL t pos) with
 | none=>.error (pos,13)
 | some v=>
  if yN (zC t (pos+(kV t pos+kF t pos)))=true∨zC t (pos+(kV t pos+kF t pos))=39 then .error (pos,13)
  else .ok ⟨1,v,aL t pos,pos⟩
def y6x (c:Nat):Bool:=[40,41,44,59,58,124,61,60,43,45,42,47,37,95].contains c
def zY (t:Bs) (pos:Nat):Except (Nat×Int) Tok :=
 if yD (zC t pos)=true∨zC t pos=126 then z1o t pos
 else if qK (zC t pos)=true then kP t pos 2
 else if qT (zC t pos)=true then kP t pos 3
 else if zC t pos=39/\qK (zC t (pos+1))=true then wF t pos 4 (1+yR yN t t.size (pos+1))
 else if kS (t.extract pos t.size) ⟨#[61,62]⟩=true∨kS (t.extract pos t.size) ⟨#[45,62]⟩=true then wF t pos 6 2
 else if y6x (zC t pos)=true then wF t pos 6 1
 else .error (pos,11)
def gM (t:Bs):Nat->Nat->Except (Nat×Int) (List Tok)
 | 0,_=>.ok []
 | f+1,i=>
  match aY t i with
  | .error c=>.error c
  | .ok q=>if q < t.size then
    match zY t q with
    | .error c=>.error c
    | .ok k=>match gM t f (q+k.text.size) with
     | .error c=>.error c
     | .ok l=>.ok (k::l)
   else .ok []
def nR (t:Bs):Except (Nat×Int) (List Tok):=gM t (t.size+1) 0
def wR (s:Bs):Int :=
 if 24 < s.size then 0 else
 match nR s with
 | .ok [k]=>if k.text=s then k.kind else 0
 | _=>0
def yT (s:Bs):Bool:=decide (wR s=2)
def yO (s:Bs):Bool:=decide (wR s=3)
end Go.Sw

namespace Go.Sw
mutual
def xS:Val->Int->Bool×Int
 | .mk _ _ args,l=>if IntKind.i64.wrap (l - 1) < 0 then (true,IntKind.i64.wrap (l - 1)) else larges args (IntKind.i64.wrap (l - 1))
def larges:List Val->Int->Bool×Int
 | [],l=>(false,l)
 | v::vs,l=>match xS v l with
  | (true,q)=>(true,q)
  | (false,q)=>larges vs q
end
def mD (v:Val):Bool:=(xS v 4000).1
mutual
def z3g (T:Table):Val->Bs->Bool
 | .mk con num args,name=>
  if con=sNo∨name=yL then decide (con=sNo)&&decide (name=yL)&&decide (args.length=0)
  else match zW T.cons con with
   | none=>false
   | some m=>decide (m.data=name)&&decide (num=0)&&decide (m.con.fields.length=args.length)&&hasL T args m.con.fields
def hasL (T:Table):List Val->List Bs->Bool
 | [],_=>true
 | v::vs,fs=>z3g T v (fs.headD sNo)&&hasL T vs fs.tail
end
def z1c (T:Table):List Named->List Param->Bool
 | [],[]=>true
 | v::vs,p::ps=>decide (v.name=p.name) && !mD v.value&&z3g T v.value p.type&&z1c T vs ps
 | _,_=>false
def sQ (T:Table):List Val->List Param->Bool
 | [],[]=>true
 | v::vs,p::ps=> !mD v&&z3g T v p.type&&sQ T vs ps
 | _,_=>false
inductive Ev (α:Type) where
 | ok (x:α) (g:Nat)
 | spent
 | stuck
abbrev Env:=List (Bs×Val)
def v0:Val:=.mk sNo 0 []
def z9c (n:Int):Val:=.mk sNo n []
def q2f:Bs:=⟨#[84,114,117,101]⟩
def z8w:Bs:=⟨#[70,97,108,115,101]⟩
def tR (b:Bool):Val:=.mk (if b then q2f else z8w) 0 []
def jV (op:Bs) (a b:Int):Val :=
 if op=⟨#[43]⟩ then z9c (IntKind.i64.wrap (a+b))
 else if op=⟨#[45]⟩ then z9c (IntKind.i64.wrap (a - b))
 else if op=⟨#[42]⟩ then z9c (IntKind.i64.wrap (a * b))
 else if op=⟨#[60]⟩ then tR (decide (a < b))
 else if op=⟨#[61]⟩ then tR (decide (a=b))
 else if b=0 then v0
 else if op=⟨#[47]⟩ then z9c (IntKind.i64.wrap (a.tdiv b))
 else z9c (a.tmod b)
structure Ctx where
 funs:List (Bs×Fun)
 inp:List (Bs×Val)
def Ev.bind {α β:Type} (r:Ev α) (f:α->Nat->Ev β):Ev β:=match r with
 | .ok x g=>f x g
 | .spent=>.spent
 | .stuck=>.stuck
def kA (ev:Nat->Ex->Env->Ev Val) (env:Env):List Ex->Nat->Ev (List Val)
 | [],g=>.ok [] g
 | e::es,g=>(ev g e env).bind fun v g=>(kA ev env es g).bind fun l g=>.ok (v::l) g
def dD:List Bs->List Val->Env->Option Env
 | [],_,env=>some env
 | n::ns,a::az,env=>dD ns az ((n,a)::env)
 | _::_,[],_=>none
def aU (ev:Nat->Ex->Env->Ev Val) (names:List Bs) (args:List Val) (env:Env) (body:Ex) (g:Nat):Ev Val :=
 match dD names args env with
 | none=>.stuck
 | some env=>ev g body env
def vN (ev:Nat->Ex->Env->Ev Val) (f:Fun) (args:List Val) (g:Nat):Ev Val:=aU ev (f.params.map Param.name) args [] f.body g
def wW:List Arm->Bs->Option Arm
 | [],_=>none
 | a::az,c=>if a.con=c then some a else wW az c
def xU (ev:Nat->Ex->Env->Ev Val) (C:Ctx) (g:Nat) (e:Ex) (env:Env):Ev Val :=
 if e.kind=1 then .ok (z9c e.num) g
 else if e.kind=2 then .ok ((zW env e.name).getD v0) g
 else if e.kind=3 then .ok ((zW C.inp e.name).getD v0) g
 else if e.kind=4 then (kA ev env e.args g).bind fun l g=>.ok (.mk e.name 0 l) g
 else if e.kind=5 then match zW C.funs e.name with
  | none=>.stuck
  | some f=>(kA ev env e.args g).bind fun l g=>vN ev f l g
 else if e.kind=6 then match e.args with
  | a::b::_=>(ev g a env).bind fun x g=>ev g b ((e.name,x)::env)
  | _=>.stuck
 else if e.kind=7 then match e.args with
  | a::_=>(ev g a env).bind fun x g=>match wW e.arms x.con with
   | none=>.stuck
   | some m=>aU ev m.vars x.args env m.body g
  | _=>.stuck
 else if e.kind=8 then (kA ev env e.args g).bind fun l g=>match l with
  | a::b::_=>if opT e.name=sNo then .stuck else .ok (jV e.name a.num b.num) g
  | _=>.stuck
 else .stuck
def z5t (C:Ctx):Nat->Nat->Ex->Env->Ev Val
 | 0,_,_,_=>.spent
 | _+1,0,_,_=>.spent
 | n+1,g+1,e,env=>xU (z5t C n) C g e env
def jR (C:Ctx) (g:Nat) (e:Ex) (env:Env):Ev Val:=z5t C (g+1) g e env
def z5g (ev:Nat->Ex->Env->Ev Val):Prop:=∀g e env v g',ev g e env=.ok v g'->g' < g
theorem Ev.bind_ok {α β:Type} {r:Ev α} {f:α->Nat->Ev β} {y:β} {g:Nat} (h:r.bind f=.ok y g):∃x g1,r=.ok x g1/\f x g1=.ok y g:=by
 cases r with
 | ok x g1=>exact ⟨x,g1,rfl,h⟩
 | spent=>cases h
 | stuck=>cases h
theorem dE {ev:Nat->Ex->Env->Ev Val} (a:z5g ev) {env:Env}:∀{l:List Ex} {g g':Nat} {vs:List Val},kA ev env l g=.ok vs g'->g'<=g
 | [],g,g',vs,h=>by simp only [kA,Ev.ok.injEq] at h;omega
 | e::es,g,g',vs,h=>by
  obtain ⟨v,g1,h1,h2⟩:=Ev.bind_ok h
  obtain ⟨w,d,b,c⟩:=Ev.bind_ok h2
  have:=a _ _ _ _ _ h1
  have:=dE a b
  simp only [Ev.ok.injEq] at c
  omega
theorem z0v {ev:Nat->Ex->Env->Ev Val} (a:z5g ev) {ns:List Bs} {az:List Val} {env:Env} {b:Ex} {g g':Nat} {v:Val} (h:aU ev ns az env b g=.ok v g'):g' < g:=by
 unfold aU at h
 split at h
 ·cases h
 ·exact a _ _ _ _ _ h
theorem y7d {ev:Nat->Ex->Env->Ev Val} (a:z5g ev) {C:Ctx} {g g':Nat} {e:Ex} {env:Env} {v:Val} (h:xU ev C g e env=.ok v g'):g'<=g:=by
 unfold xU at h
 split at h
 ·simp only [Ev.ok.injEq] at h;omega
 split at h
 ·simp only [Ev.ok.injEq] at h;omega
 split at h
 ·simp only [Ev.ok.injEq] at h;omega
 split at h
 ·obtain ⟨l,g1,h1,h2⟩:=Ev.bind_ok h
  have:=dE a h1
  simp only [Ev.ok.injEq] at h2;omega
 split at h
 ·split at h
  ·cases h
  ·obtain ⟨l,g1,h1,h2⟩:=Ev.bind_ok h
   have:=dE a h1
   have:=z0v a h2;omega
 split at h
 ·split at h
  ·obtain ⟨l,g1,h1,h2⟩:=Ev.bind_ok h
   have:=a _ _ _ _ _ h1
   have:=a _ _ _ _ _ h2
   omega
  ·cases h
 split at h
 ·split at h
  ·obtain ⟨l,g1,h1,h2⟩:=Ev.bind_ok h
   have:=a _ _ _ _ _ h1
   split at h2
   ·cases h2
   ·have:=z0v a h2;omega
  ·cases h
 split at h
 ·obtain ⟨l,g1,h1,h2⟩:=Ev.bind_ok h
  have:=dE a h1
  split at h2
  ·split at h2
   ·cases h2
   ·simp only [Ev.ok.injEq] at h2;omega
  ·cases h2
 ·cases h
theorem sD (C:Ctx):∀n,z5g (z5t C n)
 | 0=>fun g e env v g' h=>by cases h
 | n+1=>fun g e env v g' h=>by
  cases g with
  | zero=>cases h
  | succ g=>have:=y7d (sD C n) (show xU (z5t C n) C g e env=.ok v g' from h);omega
def Agree (G:Nat) (ev ev':Nat->Ex->Env->Ev Val):Prop:=∀g e env,g < G->ev g e env=ev' g e env
theorem z1b {G:Nat} {ev ev':Nat->Ex->Env->Ev Val} (a:Agree G ev ev') (b:z5g ev) {env:Env}:∀{l:List Ex} {g:Nat},g < G->kA ev env l g=kA ev' env l g
 | [],_,_=>rfl
 | e::es,g,c=>by
  simp only [kA]
  rw [<- a g e env c]
  cases h:ev g e env with
  | ok v g1=>
   have:=b _ _ _ _ _ h
   simp only [Ev.bind]
   rw [z1b a b (by omega)]
  | spent=>rfl
  | stuck=>rfl
theorem z9p {G:Nat} {ev ev':Nat->Ex->Env->Ev Val} (a:Agree G ev ev') {ns:List Bs} {az:List Val} {env:Env} {b:Ex} {g:Nat} (c:g < G):aU ev ns az env b g=aU ev' ns az env b g:=by
 unfold aU
 split
 ·rfl
 ·exact a _ _ _ c
theorem y0t {G:Nat} {ev ev':Nat->Ex->Env->Ev Val} (c:Agree G ev ev') (d:z5g ev) (C:Ctx) {g:Nat} (e:Ex) (env:Env) (i:g < G):xU ev C g e env=xU ev' C g e env:=by
 have hb:∀{α β:Type} (r:Ev α) (f f':α->Nat->Ev β),(∀x g1,r=.ok x g1->f x g1=f' x g1)->r.bind f=r.bind f':=by
  intro α β r f f' h
  cases r with
  | ok x g1=>exact h x g1 rfl
  | spent=>rfl
  | stuck=>rfl
 unfold xU
 rw [z1b c d i]
 have j:∀{l g1},kA ev' env e.args g=.ok l g1->g1 < G:=fun h=>by
  rw [<- z1b c d i] at h
  have:=dE d h;omega
 congr 4
 congr 1
 ·split
  ·rfl
  ·refine hb _ _ _ fun l g1 h=>?_
   exact z9p c (j h)
 congr 1
 ·split
  ·rename_i a b _ _
   rw [<- c g a env i]
   refine hb _ _ _ fun x g1 h=>?_
   have:=d _ _ _ _ _ h
   exact c _ _ _ (by omega)
  ·rfl
 congr 1
 ·split
  ·rename_i a _ _
   rw [<- c g a env i]
   refine hb _ _ _ fun x g1 h=>?_
   have:=d _ _ _ _ _ h
   split
   ·rfl
   ·exact z9p c (by omega)
  ·rfl
theorem y4f (C:Ctx):∀(n m g:Nat) (e:Ex) (env:Env),g < n->g < m->z5t C n g e env=z5t C m g e env
 | 0,_,_,_,_,h,_=>by omega
 | _+1,0,_,_,_,_,h=>by omega
 | n+1,m+1,0,e,env,_,_=>rfl
 | n+1,m+1,g+1,e,env,h,h'=>by
  simp only [z5t]
  exact y0t (G:=g+1) (fun g1 b a h1=>y4f C n m g1 b a (by omega) (by omega)) (sD C n) C e env (by omega)
theorem q7b (C:Ctx) {n g:Nat} (h:g < n) (e:Ex) (env:Env):z5t C n g e env=jR C g e env:=y4f C n (g+1) g e env h (by omega)
theorem z4d (C:Ctx) (e:Ex) (env:Env):jR C 0 e env=.spent:=rfl
theorem yW (C:Ctx) (g:Nat) (e:Ex) (env:Env):jR C (g+1) e env=xU (jR C) C g e env :=
 y0t (G:=g+1) (ev:=z5t C (g+1)) (ev':=jR C) (fun g1 b a h1=>q7b C h1 b a) (sD C (g+1)) C e env (by omega)
theorem jK (C:Ctx):z5g (jR C):=fun g e env v g' h=>sD C (g+1) g e env v g' h
def vR (C:Ctx):List Bs->Nat->Ev (List Val)
 | [],g=>.ok [] g
 | o::os,g=>match zW C.funs o with
  | none=>.stuck
  | some f=>(vN (jR C) f [] g).bind fun v g=>(vR C os g).bind fun l g=>.ok (v::l) g
mutual
def qU:Ex->List Bs
 | .mk k _ s args arms=>(if k=5 then [s] else [])++calledPs args++calledPa arms
def calledPs:List Ex->List Bs
 | []=>[]
 | e::es=>qU e++calledPs es
def calledPa:List Arm->List Bs
 | []=>[]
 | .mk _ _ b::es=>qU b++calledPa es
end
theorem y2k (e:Ex):qU e=(if e.kind=5 then [e.name] else [])++calledPs e.args++calledPa e.arms:=by
 cases e;simp only [qU,Ex.args,Ex.arms];rfl
theorem z3m (a:Arm) (es:List Arm):calledPa (a::es)=qU a.body++calledPa es:=by
 cases a;rfl
def oY (c:Nat):Bool:=decide (c=32) || decide (c=10) || decide (c=40) || decide (c=41)
def qD (t:Bs) (i:Nat):Nat:=yR (fun c=> !oY c) t t.size i
def vW (t:Bs):Nat->Nat->List Bs
 | 0,_=>[]
 | f+1,i=>if i < t.size then
   if zC t i=32∨zC t i=10 then vW t f (i+1)
   else if zC t i=40∨zC t i=41 then t.extract i (i+1)::vW t f (i+1)
   else t.extract i (i+qD t i)::vW t f (i+qD t i)
  else []
def vE (t:Bs):List Bs:=vW t t.size 0
def zB (ws:List Bs) (i:Nat):Bs:=ws.getD i sNo
abbrev Rd (α:Type):=Except Nat (α×Nat)
def yA {α β:Type} (r:Rd α) (f:α->Nat->Rd β):Rd β:=match r with
 | .ok (x,i)=>f x i
 | .error n=>.error n
def kW (ws:List Bs) (p:Bs->Bool) (i:Nat):Rd Bs:=if zB ws i=sNo∨p (zB ws i)=false then .error (i+1) else .ok (zB ws i,i+1)
def vH (ws:List Bs) (w:Bs) (i:Nat):Rd Unit:=yA (kW ws (fun s=>decide (s=w)) i) fun _ i=>.ok ((),i)
def oS (ws:List Bs) (i:Nat):Rd Bs:=kW ws yO i
def vU (ws:List Bs) (i:Nat):Rd Bs:=kW ws yT i
def kD:Bs:=⟨#[40]⟩
def jQ:Bs:=⟨#[41]⟩
def wY:Bs:=⟨#[45,62]⟩
def sEq:Bs:=⟨#[61]⟩
def y1h:Bs:=⟨#[124]⟩
def mP:Bs:=⟨#[58]⟩
def q5d:Bs:=⟨#[108,101,116]⟩
def z6s:Bs:=⟨#[99,97,115,101]⟩
def kB (ws:List Bs) (ex:Nat->Rd Ex):Nat->Nat->Nat->Rd (List Ex)
 | 0,_,i=>.error (i+1)
 | f+1,least,i=>if 0 < least∨zB ws i≠jQ then yA (ex i) fun e i=>yA (kB ws ex f (least - 1) i) fun l i=>.ok (e::l,i)
  else .ok ([],i)
def z3k (ex:Nat->Rd Ex) (i:Nat):Rd (List Ex):=yA (ex i) fun a i=>yA (ex i) fun b i=>.ok ([a,b],i)
def cA (ws:List Bs):Nat->Nat->Rd (List Bs)
 | 0,i=>.error (i+1)
 | f+1,i=>if zB ws i≠wY then yA (vU ws i) fun s i=>yA (cA ws f i) fun l i=>.ok (s::l,i) else .ok ([],i)
def armP (ws:List Bs) (ex:Nat->Rd Ex) (i:Nat):Rd Arm :=
 yA (vH ws kD i) fun _ i=>yA (oS ws i) fun c i=>yA (cA ws (ws.length+1) i) fun vs i=>
  yA (vH ws wY i) fun _ i=>yA (ex i) fun b i=>yA (vH ws jQ i) fun _ i=>.ok (.mk c vs b,i)
def dB (ws:List Bs) (ex:Nat->Rd Ex):Nat->Bool->Nat->Rd (List Arm)
 | 0,_,i=>.error (i+1)
 | f+1,first,i=>if first=true∨zB ws i=kD then yA (armP ws ex i) fun a i=>yA (dB ws ex f false i) fun l i=>.ok (a::l,i)
  else .ok ([],i)
def mT (s:Bs):Bool:=decide (s=⟨#[43]⟩) || decide (s=⟨#[45]⟩) || decide (s=⟨#[42]⟩) || decide (s=⟨#[47]⟩) || decide (s=⟨#[37]⟩) || decide (s=⟨#[60]⟩) || decide (s=⟨#[61]⟩)
def yX (ws:List Bs) (ex:Nat->Rd Ex) (i:Nat):Rd Ex :=
 if mT (zB ws i)=true then yA (z3k ex (i+1)) fun l j=>.ok (.mk 8 0 (zB ws i) l [],j)
 else if zB ws i=q5d then yA (vU ws (i+1)) fun x j=>yA (z3k ex j) fun l j=>.ok (.mk 6 0 x l [],j)
 else if zB ws i=z6s then yA (ex (i+1)) fun a j=>yA (dB ws ex (ws.length+1) true j) fun l j=>.ok (.mk 7 0 sNo [a] l,j)
 else if yO (zB ws i)=true then yA (kB ws ex (ws.length+1) 1 (i+1)) fun l j=>.ok (.mk 4 0 (zB ws i) l [],j)
 else yA (vU ws i) fun x j=>yA (kB ws ex (ws.length+1) 0 j) fun l j=>.ok (.mk 5 0 x l [],j)
def zS (ws:List Bs):Nat->Nat->Rd Ex
 | 0,i=>.error (i+1)
 | d+1,i=>if zB ws i=sNo then .error (i+1) else
  match wH (zB ws i) with
  | some n=>.ok (.mk 1 n sNo [] [],i+1)
  | none=>
   if zB ws i=kD then yA (yX ws (zS ws d) (i+1)) fun e j=>yA (vH ws jQ j) fun _ j=>.ok (e,j)
   else if yO (zB ws i)=true then .ok (.mk 4 0 (zB ws i) [] [],i+1)
   else if zC (zB ws i) 0=33/\yT ((zB ws i).extract 1 (zB ws i).size)=true then .ok (.mk 3 0 ((zB ws i).extract 1 (zB ws i).size) [] [],i+1)
   else yA (vU ws i) fun x j=>.ok (.mk 2 0 x [] [],j)
def xC (ws:List Bs):Nat->Nat->Rd (List Bs)
 | 0,i=>.error (i+1)
 | f+1,i=>if yO (zB ws i)=true then yA (oS ws i) fun s i=>yA (xC ws f i) fun l i=>.ok (s::l,i) else .ok ([],i)
def aW (ws:List Bs):Nat->Nat->Rd (List Con)
 | 0,i=>.error (i+1)
 | f+1,i=>yA (oS ws i) fun n i=>yA (xC ws (ws.length+1) i) fun l i=>
   if zB ws i≠y1h then .ok ([⟨n,l⟩],i) else yA (aW ws f (i+1)) fun cs i=>.ok (⟨n,l⟩::cs,i)
def nK (ws:List Bs) (i:Nat):Rd Data:=yA (oS ws i) fun n i=>yA (vH ws sEq i) fun _ i=>yA (aW ws (ws.length+1) i) fun l i=>.ok (⟨n,l⟩,i)
def xX (ws:List Bs) (i:Nat):Rd Param:=yA (vU ws i) fun n i=>yA (vH ws mP i) fun _ i=>yA (oS ws i) fun t i=>.ok (⟨n,t⟩,i)
def vZ (ws:List Bs):Nat->Nat->Rd (List Param)
 | 0,i=>.error (i+1)
 | f+1,i=>if zB ws i=kD then yA (xX ws (i+1)) fun p i=>yA (vH ws jQ i) fun _ i=>yA (vZ ws f i) fun l i=>.ok (p::l,i)
  else .ok ([],i)
def dH (ws:List Bs) (i:Nat):Rd Fun:=yA (vU ws i) fun n i=>yA (vZ ws (ws.length+1) i) fun ps i=>yA (vH ws mP i) fun _ i=>
 yA (oS ws i) fun r i=>yA (vH ws sEq i) fun _ i=>yA (zS ws 250 i) fun b i=>.ok (⟨n,ps,r,b⟩,i)
def dI:Bs:=⟨#[100,97,116,97]⟩
def aH:Bs:=⟨#[105,110,112,117,116]⟩
def y5f:Bs:=⟨#[102,117,110]⟩
def sG:Bs:=⟨#[111,117,116,112,117,116]⟩
def qW (ws:List Bs):Nat->Core->Nat->Except Nat Core
 | 0,_,i=>.error (i+1)
 | f+1,c,i=>if i < ws.length then
   if zB ws i=dI then match nK ws (i+1) with
    | .ok (d,j)=>qW ws f { c with datas:=c.datas++[d] } j
    | .error n=>.error n
   else if zB ws i=aH then match xX ws (i+1) with
    | .ok (d,j)=>qW ws f { c with inputs:=c.inputs++[d] } j
    | .error n=>.error n
   else if zB ws i=y5f then match dH ws (i+1) with
    | .ok (d,j)=>qW ws f { c with funs:=c.funs++[d] } j
    | .error n=>.error n
   else if zB ws i=sG then match vU ws (i+1) with
    | .ok (d,j)=>qW ws f { c with outputs:=c.outputs++[d] } j
    | .error n=>.error n
   else .error (i+1)
  else .ok c
def tN (t:Bs):Except Nat Core:=qW (vE t) ((vE t).length+1) ⟨[],[],[],[]⟩ 0
abbrev Tx:=List UInt8
def tx (s:Bs):Tx:=s.data.toList
mutual
def vX:Ex->Tx
 | .mk k n s args arms=>
  if k=1 then z0n n
  else if k=2 then tx s
  else if k=3 then 33::tx s
  else if k=4 then (match args with | []=>tx s | _=>40::tx s++writePs args++[41])
  else if k=6 then 40::[108,101,116,32]++tx s++writePs args++[41]
  else if k=7 then [40,99,97,115,101,32]++writeH args++writePa arms++[41]
  else 40::tx s++writePs args++[41]
def writePs:List Ex->Tx
 | []=>[]
 | e::es=>32::vX e++writePs es
def writeH:List Ex->Tx
 | []=>[]
 | e::_=>vX e
def writePa:List Arm->Tx
 | []=>[]
 | .mk c vs b::es=>[32,40]++(tx c++(vs.map fun v=>32::tx v).flatten)++[32,45,62,32]++vX b++[41]++writePa es
end
def xQ (dn:Bs):Bool->List (Bs×Maker)->List Con->Bool×List (Bs×Maker)
 | ok,m,[]=>(ok,m)
 | ok,m,x::xs=>if (ok&&yO x.name)=true then xQ dn (zW m x.name).isNone (jD m x.name ⟨dn,x⟩) xs else xQ dn false m xs
def nQ (ok:Bool) (ds:List (Bs×Data)) (d:Data):Bool:=ok&&yO d.name && !decide (d.name=yL)&&(zW ds d.name).isNone&&decide (0 < d.cons.length)
def pL (ok:Bool) (ds:List (Bs×Data)) (d:Data):List (Bs×Data):=if (ok&&yO d.name && !decide (d.name=yL))=true then jD ds d.name d else ds
def uW:Bool->List (Bs×Data)->List (Bs×Maker)->List Data->Bool×List (Bs×Data)×List (Bs×Maker)
 | ok,ds,m,[]=>(ok,ds,m)
 | ok,ds,m,d::l=>uW (xQ d.name (nQ ok ds d) m d.cons).1 (pL ok ds d) (xQ d.name (nQ ok ds d) m d.cons).2 l
def uX:Bool->List (Bs×Fun)->List Fun->Bool×List (Bs×Fun)
 | ok,m,[]=>(ok,m)
 | ok,m,f::l=>if (ok&&yT f.name)=true then uX (zW m f.name).isNone (jD m f.name f) l else uX false m l
def uY:Bool->List (Bs×Bs)->List Param->Bool×List (Bs×Bs)
 | ok,m,[]=>(ok,m)
 | ok,m,p::l=>if (ok&&yT p.name)=true then uY (zW m p.name).isNone (jD m p.name p.type) l else uY false m l
def dsP (c:Core):Bool×List (Bs×Data)×List (Bs×Maker):=uW true [] [] (truthsD::c.datas)
def fsP (c:Core):Bool×List (Bs×Fun):=uX (dsP c).1 [] c.funs
def isP (c:Core):Bool×List (Bs×Bs):=uY (fsP c).1 [] c.inputs
def zN (c:Core):Table:=⟨c,(dsP c).2.1,(dsP c).2.2,(fsP c).2,(isP c).2⟩
def pA (c:Core):Bool:=(isP c).1
def z4x (ps:List Param):Scope:=ps.foldl (fun s p=>nW s p.name p.type) []
def aF (T:Table) (f:Fun):Bool :=
 f.params.all (fun p=>pP T p.type)&&pP T f.result&&pK yT [] (f.params.map Param.name++yH f.body)&&decide ((zH T f.body (z4x f.params)).1=f.result)
def nF (T:Table):List Bs->List Bs->Bool
 | _,[]=>true
 | seen,o::os=>match zW T.funs o with
  | none=>false
  | some f=>decide (f.params.length=0) && !has seen o&&nF T (seen++[o]) os
def dF (T:Table) (d:Data):Bool:=d.cons.all fun x=>x.fields.all fun s=>pP T s
def jA (c:Core):Bool :=
 pA c&&decide (c.outputs≠[])&&c.datas.all (dF (zN c))&&c.inputs.all (fun p=>xD c.datas p.type)&&c.funs.all (aF (zN c))&&nF (zN c) [] c.outputs
def qL (c:Core):Int:=if c.funs.any (fun f=>xN 250 f.body) then 6 else if kO c then 2 else if jA c then 0 else 80
section
variable (T:Table) (e:Ex) (s:Scope)
theorem z5a (h:e.kind=1):zH T e s=(uL e,s):=by
 cases e with | mk k n nm args arms=>simp only [Ex.kind] at h;subst h;simp [zH]
theorem z0g (h:e.kind=2):zH T e s=(nS e s,s):=by
 cases e with | mk k n nm args arms=>simp only [Ex.kind] at h;subst h;simp [zH]
theorem z0e (h:e.kind=3):zH T e s=(z1e T e,s):=by
 cases e with | mk k n nm args arms=>simp only [Ex.kind] at h;subst h;simp [zH]
theorem sM (h:e.kind=5):zH T e s=aV T e s:=by
 cases e with
 | mk k n nm args arms=>
  simp only [Ex.kind] at h;subst h
  simp only [zH,aV,Ex.name,Ex.args,kJ]
  simp only [show ¬(5:Int)=1 by decide,show ¬(5:Int)=2 by decide,show ¬(5:Int)=3 by decide,show ¬(5:Int)=4 by decide,if_false,if_true]
  cases zW T.funs nm with
  | none=>rfl
  | some m=>
   simp only
   by_cases hb:qX (.mk 5 n nm args arms) false true (-1) 0=true
   ·by_cases hl:args.length=m.params.length
    ·simp [hb,hl]
    ·simp [hb,hl]
   ·simp [hb]
theorem z0f (h:e.kind=6):zH T e s=z4k T e s:=by
 cases e with
 | mk k n nm args arms=>simp only [Ex.kind] at h;subst h;simp [zH,z4k,Ex.name,Ex.args]
theorem z2c (h:e.kind=7):zH T e s=xL T e s:=by
 cases e with
 | mk k n nm args arms=>simp only [Ex.kind] at h;subst h;simp [zH,xL,Ex.args,Ex.arms];rfl
theorem z3b (h:e.kind=8):zH T e s=nZ T e s:=by
 cases e with
 | mk k n nm args arms=>
  simp only [Ex.kind] at h;subst h
  simp only [zH,nZ,Ex.name,Ex.args,kJ]
  simp only [show ¬(8:Int)=1 by decide,show ¬(8:Int)=2 by decide,show ¬(8:Int)=3 by decide,show ¬(8:Int)=4 by decide,show ¬(8:Int)=5 by decide,show ¬(8:Int)=6 by decide,show ¬(8:Int)=7 by decide,if_false,if_true]
  by_cases hb:qX (.mk 8 n nm args arms) false true 2 0=true
  ·have hl:args.length=2:=cE (n:=2) hb
   simp [hb,hl]
  ·simp [hb]
theorem sN (h1:e.kind≠1) (h2:e.kind≠2) (a:e.kind≠3) (b:e.kind≠4) (c:e.kind≠5) (d:e.kind≠6) (f:e.kind≠7) (g:e.kind≠8):zH T e s=(sNo,s):=by
 cases e with
 | mk k n nm args arms=>simp only [Ex.kind] at *;simp [zH, *]
end
theorem z2t {α:Type} (s:List (Bs×α)) (k n:Bs) (x:α):zW (nW s k x) n=if n=k then some x else zW s n:=by
 induction s with
 | nil=>simp [nW,zW]
 | cons p s a=>
  obtain ⟨q,y⟩:=p
  simp only [nW]
  split
  ·subst_vars;simp only [zW];split <;> rfl
  ·simp only [zW,a]
   by_cases h1:n=q
   ·subst h1
    rename_i h2
    rw [if_pos rfl,if_pos rfl,if_neg (fun e=>h2 e.symm)]
   ·rw [if_neg h1,if_neg h1]
theorem uI {α:Type}:∀{s:List (Bs×α)} {k:Bs} {x:α},zW s k=none->nW s k x=s++[(k,x)]
 | [],_,_,_=>rfl
 | (q,y)::s,k,x,h=>by
  simp only [zW] at h
  split at h
  ·cases h
  ·rename_i a
   simp only [nW,if_neg a,List.cons_append,uI h]
theorem y5i {α:Type}:∀{s:List (Bs×α)} {k:Bs} {x:α} {r:List (Bs×α)},zW s k=none->y1d (s++(k,x)::r) k=s++r
 | [],_,_,_,_=>by simp [y1d]
 | (q,y)::s,k,x,r,h=>by
  simp only [zW] at h
  split at h
  ·cases h
  ·rename_i a
   simp only [List.cons_append,y1d,if_neg a,y5i h]
theorem oO {α:Type}:∀{s:List (Bs×α)} {k:Bs} {r:List (Bs×α)},zW s k=none->zW (s++r) k=zW r k
 | [],_,_,_=>rfl
 | (q,y)::s,k,r,h=>by
  simp only [zW] at h
  split at h
  ·cases h
  ·rename_i a
   simp only [List.cons_append,zW,if_neg a,oO h]
def Fresh (s:Scope) (l:List Bs):Prop:=∀n∈l,zW s n=none
theorem Fresh.sub {s:Scope} {l m:List Bs} (h:Fresh s l) (O:∀n∈m,n∈l):Fresh s m:=fun n a=>h n (O n a)
theorem z6n:∀{vs fs:List Bs} {s:Scope},vs.length=fs.length->vs.Nodup->Fresh s vs->putAll s vs fs=s++vs.zip fs
 | [],[],s,_,_,_=>by simp [putAll]
 | v::vs,f::fs,s,hl,b,a=>by
  have h1:=a v msQ
  rw [sJ,uI h1,z6n (by simpa using hl) (List.nodup_cons.1 b).2]
  ·simp
  ·intro n hn'
   rw [oO (a n (mcQ _ hn'))]
   have:n≠v:=fun e=>(List.nodup_cons.1 b).1 (e▸hn')
   simp [zW,this]
 | [],_::_,_,hl,_,_=>by simp at hl
 | _::_,[],_,hl,_,_=>by simp at hl
theorem y3s:∀{vs fs:List Bs} {s:Scope},vs.length=fs.length->vs.Nodup->Fresh s vs->oH (s++vs.zip fs) vs=s
 | [],[],s,_,_,_=>by simp [oH]
 | v::vs,f::fs,s,hl,b,a=>by
  simp only [List.zip_cons_cons,oH]
  rw [y5i (a v msQ)]
  exact y3s (by simpa using hl) (List.nodup_cons.1 b).2 (a.sub fun n h=>mcQ _ h)
 | [],_::_,_,hl,_,_=>by simp at hl
 | _::_,[],_,hl,_,_=>by simp at hl
theorem uP:∀{vs fs:List Bs} {s:Scope} {n:Bs},n∉vs->zW (putAll s vs fs) n=zW s n
 | [],_,_,_,_=>by rw [vS]
 | v::vs,[],_,_,_=>rfl
 | v::vs,f::fs,s,n,h=>by
  rw [sJ,uP (fun e=>h (mcQ _ e)),z2t,if_neg (fun e=>h (by rw [e];exact msQ))]
def All2 {α β:Type} (R:α->β->Prop):List α->List β->Prop
 | [],[]=>True
 | x::xs,y::ys=>R x y/\All2 R xs ys
 | _,_=>False
def Ty (T:Table) (e:Ex) (s:Scope) (t:Bs):Prop:=(zH T e s).1=t/\t≠sNo
def sW (T:Table) (e:Ex):Prop:=∀s,(yH e).Nodup->Fresh s (yH e)->(zH T e s).1≠sNo->(zH T e s).2=s
theorem jH {l m:List Bs} (h:(l++m).Nodup):l.Nodup/\m.Nodup/\∀n∈l,n∉m:=by
 rw [List.nodup_append] at h
 exact ⟨h.1,h.2.1,fun n hl N=>h.2.2 n hl n N rfl⟩
theorem q5y {T:Table}:∀{xs:List Ex} {s:Scope} {ts:List Bs},(∀x∈xs,sW T x)->xs.length=ts.length->(bindPs xs).Nodup->Fresh s (bindPs xs)->(allQ T xs s ts).1=true ->
  (allQ T xs s ts).2=s/\All2 (fun x t=>Ty T x s t) xs ts
 | [],s,[],_,_,_,_,_=>⟨rfl,trivial⟩
 | x::xs,s,t::ts,d,hl,g,c,h=>by
  rw [z7i] at h ⊢
  split at h
  ·cases h
  ·rename_i a
   rw [if_neg a]
   have hn':=jH (show (yH x++bindPs xs).Nodup from g)
   have h1:(zH T x s).1≠sNo:=fun e=>a (.inl e)
   have h2:(zH T x s).1=t:=Classical.byContradiction fun e=>a (.inr e)
   have f:=d x msQ s hn'.1 (c.sub fun n h=>List.mem_append.2 (.inl h)) h1
   rw [f] at h ⊢
   have b:=q5y (fun y i=>d y (mcQ _ i)) (by simpa using hl) hn'.2.1 (c.sub fun n h=>List.mem_append.2 (.inr h)) h
   exact ⟨b.1,⟨h2,h2▸h1⟩,b.2⟩
 | [],_,_::_,_,hl,_,_,_=>by simp at hl
 | _::_,_,[],_,hl,_,_,_=>by simp at hl
theorem y1v {T:Table} {xs:List Ex} {s:Scope} {ts:List Bs} (b:∀x∈xs,sW T x) (c:(bindPs xs).Nodup) (a:Fresh s (bindPs xs)) (h:(kJ T xs s ts).1=true) :
  (kJ T xs s ts).2=s/\All2 (fun x t=>Ty T x s t) xs ts:=by
 unfold kJ at h ⊢
 split at h
 ·rename_i hl;rw [if_pos hl];exact q5y b hl c a h
 ·cases h
def ArmOk (T:Table) (s:Scope) (t:Bs) (a:Arm) (c:Con):Prop:=a.con=c.name/\a.vars.length=c.fields.length/\Ty T a.body (putAll s a.vars c.fields) t
theorem y9t {T:Table} {a:Arm} {c:Con} {s:Scope} (e:sW T a.body) (hl:a.vars.length=c.fields.length) (f:(a.vars++yH a.body).Nodup) (b:Fresh s (a.vars++yH a.body))
  (h:(aA T a c s).1≠sNo):(aA T a c s).2=s:=by
 have hn':=jH f
 have d:Fresh s a.vars:=b.sub fun n h=>List.mem_append.2 (.inl h)
 have h1:=e (putAll s a.vars c.fields) hn'.2.1 (fun n hb=>by
  rw [uP (fun N=>hn'.2.2 n N hb)];exact b n (List.mem_append.2 (.inr hb))) h
 simp only [aA,h1]
 rw [z6n hl hn'.1 d]
 exact y3s hl hn'.1 d
theorem y7c {T:Table} {t:Bs} (g:t≠sNo):∀{az:List Arm} {cs:List Con} {first:Bool} {out:Bs} {s:Scope},(∀a∈az,sW T a.body)->cs.length=az.length->(bindPa az).Nodup->Fresh s (bindPa az) ->
  (splitP T az cs first out s).1=t->(splitP T az cs first out s).2=s/\All2 (fun a c=>ArmOk T s t a c) az cs/\(first=false∨az=[]->out=t)
 | [],[],first,out,s,_,_,_,_,h=>⟨rfl,trivial,fun _=>h⟩
 | a::az,c::cs,first,out,s,p,hl,q,m,h=>by
  rw [qO] at q m
  have hn':=jH q
  rw [jN] at h ⊢
  split at h
  ·exact absurd h.symm g
  ·rename_i j
   rw [if_neg j]
   split at h
   ·exact absurd h.symm g
   ·rename_i l
    rw [if_neg l]
    have k:a.con=c.name:=Classical.byContradiction fun e=>j (.inl e)
    have d:a.vars.length=c.fields.length:=Classical.byContradiction fun e=>j (.inr e)
    have h1:(aA T a c s).1≠sNo:=fun e=>l (.inl e)
    have r:=y9t (p a msQ) d hn'.1 (m.sub fun n h=>List.mem_append.2 (.inl h)) h1
    rw [r] at h ⊢
    have i:=y7c g (fun b hb=>p b (mcQ _ hb)) (by simpa using hl) hn'.2.1 (m.sub fun n h=>List.mem_append.2 (.inr h)) h
    have o:(aA T a c s).1=t:=i.2.2 (.inl rfl)
    refine ⟨i.1,⟨⟨k,d,o,g⟩,i.2.1⟩,fun f=>?_⟩
    rcases f with f | f
    ·rw [<- o]
     exact (Classical.byContradiction fun e=>l (.inr ⟨f,e⟩):(aA T a c s).1=out).symm
    ·cases f
 | [],_::_,_,_,_,_,hl,_,_,_=>by simp at hl
 | _::_,[],_,_,_,_,hl,_,_,_=>by simp at hl
theorem z6c (T:Table) (p:zW T.datas sNo=none):∀(n:Nat) (e:Ex),e.sz < n->sW T e
 | 0,_,h=>by omega
 | n+1,e,R=>by
  intro s B q h
  have g:∀x∈e.args,sW T x:=fun x o=>z6c T p n x (by have:=Ex.lt_args o;omega)
  have H:∀a∈e.arms,sW T a.body:=fun a c=>z6c T p n a.body (by have:=Ex.lt_arms c;omega)
  rw [dC] at B q
  have A:=jH B
  have j:=jH A.1
  have f:Fresh s (bindPs e.args):=q.sub fun m N=>List.mem_append.2 (.inl (List.mem_append.2 (.inr N)))
  have G:Fresh s (bindPa e.arms):=q.sub fun m N=>List.mem_append.2 (.inr N)
  by_cases h1:e.kind=1
  ·rw [z5a T e s h1]
  by_cases h2:e.kind=2
  ·rw [z0g T e s h2]
  by_cases K:e.kind=3
  ·rw [z0e T e s K]
  by_cases L:e.kind=4
  ·rw [z0d T e s L] at h ⊢
   unfold z0r at h ⊢
   split at h
   ·rename_i N;simp only [N] at h ⊢
   ·rename_i m N
    try simp only [N]
    split at h
    ·rename_i hb
     rw [if_pos hb]
     by_cases c:(kJ T e.args s m.con.fields).1=true
     ·exact (y1v g j.2.1 f c).1
     ·simp [c] at h
    ·exact absurd rfl h
  by_cases M:e.kind=5
  ·rw [sM T e s M] at h ⊢
   unfold aV at h ⊢
   split at h
   ·rename_i N;simp only [N] at h ⊢
   ·rename_i m N
    try simp only [N]
    split at h
    ·rename_i hb
     rw [if_pos hb]
     by_cases c:(kJ T e.args s (m.params.map Param.type)).1=true
     ·exact (y1v g j.2.1 f c).1
     ·simp [c] at h
    ·exact absurd rfl h
  by_cases E:e.kind=6
  ·rw [z0f T e s E] at h ⊢
   unfold z4k at h ⊢
   split at h
   ·rename_i hb
    rw [if_pos hb]
    have hl:=cE (n:=2) hb
    obtain ⟨x,o⟩:=jC (l:=e.args) (i:=0) (by omega)
    obtain ⟨y,C⟩:=jC (l:=e.args) (i:=1) (by omega)
    have k:e.args=[x,y]:=by
     cases c:e.args with
     | nil=>rw [c] at hl;simp at hl
     | cons a l=>
      cases l with
      | nil=>rw [c] at hl;simp at hl
      | cons b l=>
       rw [c] at hl o C
       simp only [lcQ] at hl
       have:l=[]:=List.eq_nil_of_length_eq_zero (by omega)
       subst this
       simp only [List.getElem?_cons_zero,List.getElem?_cons_succ,Option.some.injEq] at o C
       rw [o,C]
    by_cases r:(zH T x s).1=sNo
    ·rw [q4l o r] at h;exact absurd rfl h
    ·rw [y5j o C r] at h ⊢
     simp only [if_pos E,k,bindPs,List.append_nil] at B q
     have I:=jH B
     have w:=jH I.1
     have z:=jH w.2.1
     have D:=g x (by rw [k];exact msQ) s z.1 (q.sub fun m N=>by simp [N]) r
     rw [D] at h ⊢
     have t:zW s e.name=none:=q e.name (by simp)
     have u:Fresh (nW s e.name (zH T x s).1) (yH y):=fun m N=>by
      rw [z2t,if_neg]
      ·exact q m (by simp [N])
      ·rintro rfl
       exact w.2.2 e.name (by simp) (by simp [N])
     have e2:=g y (by rw [k];simp) _ z.2.1 u h
     simp only [e2]
     rw [uI t,y5i t,List.append_nil]
   ·exact absurd rfl h
  by_cases P:e.kind=7
  ·rw [z2c T e s P] at h ⊢
   unfold xL at h ⊢
   split at h
   ·rename_i hb
    rw [if_pos hb]
    have hl:=cE (n:=1) hb
    obtain ⟨x,o⟩:=jC (l:=e.args) (i:=0) (by omega)
    have k:e.args=[x]:=by
     cases c:e.args with
     | nil=>rw [c] at hl;simp at hl
     | cons a l=>
      rw [c] at hl o
      simp only [lcQ] at hl
      have:l=[]:=List.eq_nil_of_length_eq_zero (by omega)
      subst this
      simp only [List.getElem?_cons_zero,Option.some.injEq] at o
      rw [o]
    rw [jU o] at h ⊢
    split at h
    ·exact absurd rfl h
    ·rename_i d F
     try simp only [F]
     split at h
     ·rename_i v
      rw [if_pos v]
      by_cases r:(zH T x s).1=sNo
      ·rw [r,p] at F;cases F
      ·rw [k] at j f
       simp only [bindPs,List.append_nil] at j f
       have D:=g x (by rw [k];exact msQ) s j.2.1 f r
       rw [D] at h ⊢
       exact (y7c h H v A.2.1 G rfl).1
     ·exact absurd rfl h
   ·exact absurd rfl h
  by_cases Q:e.kind=8
  ·rw [z3b T e s Q] at h ⊢
   unfold nZ at h ⊢
   split at h
   ·rename_i hb
    rw [if_pos hb]
    by_cases c:(kJ T e.args s [yL,yL]).1=true
    ·exact (y1v g j.2.1 f c).1
    ·simp [c] at h
   ·exact absurd rfl h
  rw [sN T e s h1 h2 K L M E P Q]
end Go.Sw

namespace Go.Sw
theorem q2h (ps:List Param):z4x ps=putAll [] (ps.map Param.name) (ps.map Param.type):=by
 have:∀(ps:List Param) (s:Scope),ps.foldl (fun s p=>nW s p.name p.type) s=putAll s (ps.map Param.name) (ps.map Param.type):=by
  intro ps
  induction ps with
  | nil=>intro s;simp [vS]
  | cons p ps a=>intro s;simp only [List.foldl_cons,List.map_cons,sJ,a]
 exact this ps []
theorem mH {nm:Bs->Bool}:∀{l ds:List Bs},pK nm ds l=true->l.Nodup/\(∀n∈l,n∉ds)/\∀n∈l,nm n=true
 | [],_,_=>by simp
 | s::l,ds,h=>by
  simp only [pK,baQ,Bool.not_eq_true'] at h
  obtain ⟨⟨h1,h2⟩,c⟩:=h
  obtain ⟨d,b,e⟩:=mH c
  have O:s∉ds:=fun N=>by
   have:has ds s=true:=by simp only [has,List.any_eq_true,decide_eq_true_eq];exact ⟨s,N,rfl⟩
   rw [this] at h2;cases h2
  refine ⟨List.nodup_cons.2 ⟨fun N=>b s N (by simp),d⟩,fun n a=>?_,fun n a=>?_⟩
  ·rcases List.mem_cons.1 a with rfl | a
   ·exact O
   ·exact fun N=>b n a (List.mem_append.2 (.inl N))
  ·rcases List.mem_cons.1 a with rfl | a
   ·exact h1
   ·exact e n a
section
variable {α:Type}
def pS {β:Type} (key:β->Bs) (val:β->α) (l:List β):List (Bs×α):=l.map fun x=>(key x,val x)
theorem q6z {β:Type} {key:β->Bs} {val:β->α}:∀{l:List β} {x:β},(l.map key).Nodup->x∈l->zW (pS key val l) (key x)=some (val x)
 | y::l,x,a,h=>by
  simp only [List.map_cons,List.nodup_cons] at a
  simp only [pS,List.map_cons,zW]
  rcases List.mem_cons.1 h with rfl | h
  ·rw [if_pos rfl]
  ·rw [if_neg (fun e=>a.1 (by rw [<- e];exact List.mem_map_of_mem h))]
   exact q6z a.2 h
theorem tB {β:Type} {key:β->Bs} {val:β->α}:∀{l:List β} {n:Bs} {v:α},zW (pS key val l) n=some v->∃x∈l,key x=n/\val x=v
 | [],_,_,h=>by simp [pS,zW] at h
 | y::l,n,v,h=>by
  simp only [pS,List.map_cons,zW] at h
  split at h
  ·simp only [Option.some.injEq] at h;rename_i e;exact ⟨y,msQ,e.symm,h⟩
  ·obtain ⟨x,h1,h2⟩:=tB h;exact ⟨x,mcQ _ h1,h2⟩
theorem xB {s r:List (Bs×α)} {n:Bs} (h:zW (s++r) n=none):zW s n=none/\zW r n=none:=by
 induction s with
 | nil=>exact ⟨rfl,h⟩
 | cons p s b=>
  obtain ⟨k,x⟩:=p
  simp only [List.cons_append,zW] at h ⊢
  split at h
  ·cases h
  ·rename_i a;rw [if_neg a];exact b h
theorem lget_single {k n:Bs} {x:α}:zW [(k,x)] n=none↔n≠k:=by
 simp [zW]
end
theorem nN {α:Type} {m:List (Bs×α)} {s:Bs} {x:α} (h:zW m s=none):jD m s x=m++[(s,x)]:=by
 unfold jD;rw [h];exact uI h
theorem z2a (dn:Bs):∀{l:List Con} {ok:Bool} {m:List (Bs×Maker)},(xQ dn ok m l).1=true ->
  ok=true/\(xQ dn ok m l).2=m++pS Con.name (fun x=>⟨dn,x⟩) l/\(∀x∈l,yO x.name=true/\zW m x.name=none)/\(l.map Con.name).Nodup
 | [],ok,m,h=>⟨h,by simp [xQ,pS],by simp,by simp⟩
 | x::l,ok,m,h=>by
  simp only [xQ] at h ⊢
  split at h
  ·rename_i c
   rw [if_pos c]
   simp only [baQ] at c
   obtain ⟨h1,h2,b,f⟩:=z2a dn h
   have d:zW m x.name=none:=by simpa using h1
   rw [nN d] at h2 b ⊢
   refine ⟨c.1,by rw [h2];simp [pS],fun y a=>?_,?_⟩
   ·rcases List.mem_cons.1 a with rfl | a
    ·exact ⟨c.2,d⟩
    ·exact ⟨(b y a).1,(xB (b y a).2).1⟩
   ·simp only [List.map_cons,List.nodup_cons]
    refine ⟨fun N=>?_,f⟩
    obtain ⟨y,a,e⟩:=List.mem_map.1 N
    have:=(xB (b y a).2).2
    rw [lget_single] at this
    exact this e
  ·have:=(z2a dn h).1;cases this
def q0d (l:List Data):List (Bs×Maker):=(l.map fun d=>pS Con.name (fun x=>(⟨d.name,x⟩:Maker)) d.cons).flatten
theorem y7f:∀{l:List Data} {ok:Bool} {ds:List (Bs×Data)} {m:List (Bs×Maker)},(uW ok ds m l).1=true ->
  ok=true/\(uW ok ds m l).2.1=ds++pS Data.name id l/\(uW ok ds m l).2.2=m++q0d l /\
  (∀d∈l,yO d.name=true/\d.name≠yL/\zW ds d.name=none/\(d.cons.map Con.name).Nodup/\∀x∈d.cons,yO x.name=true/\zW m x.name=none)/\(l.map Data.name).Nodup /\
  ((l.map fun d=>d.cons.map Con.name).flatten).Nodup
 | [],ok,ds,m,h=>⟨h,by simp [uW,pS],by simp [uW,q0d],by simp,by simp,by simp⟩
 | d::l,ok,ds,m,h=>by
  simp only [uW] at h ⊢
  obtain ⟨h1,h2,i,b,t,u⟩:=y7f h
  obtain ⟨g1,s,g3,g4⟩:=z2a d.name h1
  simp only [nQ,baQ,decide_eq_true_eq,Bool.not_eq_true',decide_eq_false_iff_not,Option.isNone_iff_eq_none] at g1
  obtain ⟨⟨⟨⟨k,o⟩,p⟩,q⟩,F⟩:=g1
  have z:pL ok ds d=ds++[(d.name,d)]:=by
   unfold pL
   rw [if_pos (by simp [k,o,p])]
   exact nN q
  rw [z,s] at h2 i b ⊢
  refine ⟨k,by rw [h2];simp [pS],by rw [i];simp [q0d],fun e J=>?_,?_,?_⟩
  ·rcases List.mem_cons.1 J with rfl | J
   ·exact ⟨o,p,q,g4,fun x a=>g3 x a⟩
   ·obtain ⟨B,C,D,E,j⟩:=b e J
    exact ⟨B,C,(xB D).1,E,fun x a=>⟨(j x a).1,(xB (j x a).2).1⟩⟩
  ·simp only [List.map_cons,List.nodup_cons]
   refine ⟨fun N=>?_,t⟩
   obtain ⟨e,J,r⟩:=List.mem_map.1 N
   have:=(xB (b e J).2.2.1).2
   rw [lget_single] at this
   exact this r
  ·simp only [List.map_cons,List.flatten_cons]
   rw [List.nodup_append]
   refine ⟨g4,u,fun n w m' hm' e=>?_⟩
   subst e
   obtain ⟨x,a,rfl⟩:=List.mem_map.1 w
   obtain ⟨ns,c,f⟩:=List.mem_flatten.1 hm'
   obtain ⟨e,J,rfl⟩:=List.mem_map.1 c
   obtain ⟨y,A,g⟩:=List.mem_map.1 f
   have:=(xB ((b e J).2.2.2.2 y A).2).2
   rw [g] at this
   have v:zW (pS Con.name (fun x=>(⟨d.name,x⟩:Maker)) d.cons) x.name=some ⟨d.name,x⟩:=q6z (val:=fun x=>(⟨d.name,x⟩:Maker)) g4 a
   rw [v] at this;cases this
theorem z6y:∀{l:List Fun} {ok:Bool} {m:List (Bs×Fun)},(uX ok m l).1=true ->
  ok=true/\(uX ok m l).2=m++pS Fun.name id l/\(∀f∈l,yT f.name=true/\zW m f.name=none)/\(l.map Fun.name).Nodup
 | [],ok,m,h=>⟨h,by simp [uX,pS],by simp,by simp⟩
 | x::l,ok,m,h=>by
  simp only [uX] at h ⊢
  split at h
  ·rename_i c
   rw [if_pos c]
   simp only [baQ] at c
   obtain ⟨h1,h2,b,g⟩:=z6y h
   have d:zW m x.name=none:=by simpa using h1
   rw [nN d] at h2 b ⊢
   refine ⟨c.1,by rw [h2];simp [pS],fun y a=>?_,?_⟩
   ·rcases List.mem_cons.1 a with rfl | a
    ·exact ⟨c.2,d⟩
    ·exact ⟨(b y a).1,(xB (b y a).2).1⟩
   ·simp only [List.map_cons,List.nodup_cons]
    refine ⟨fun N=>?_,g⟩
    obtain ⟨y,a,e⟩:=List.mem_map.1 N
    have:=(xB (b y a).2).2
    rw [lget_single] at this
    exact this e
  ·have:=(z6y h).1;cases this
theorem z6z:∀{l:List Param} {ok:Bool} {m:List (Bs×Bs)},(uY ok m l).1=true ->
  ok=true/\(uY ok m l).2=m++pS Param.name Param.type l/\(∀p∈l,yT p.name=true/\zW m p.name=none)/\(l.map Param.name).Nodup
 | [],ok,m,h=>⟨h,by simp [uY,pS],by simp,by simp⟩
 | x::l,ok,m,h=>by
  simp only [uY] at h ⊢
  split at h
  ·rename_i c
   rw [if_pos c]
   simp only [baQ] at c
   obtain ⟨h1,h2,b,f⟩:=z6z h
   have d:zW m x.name=none:=by simpa using h1
   rw [nN d] at h2 b ⊢
   refine ⟨c.1,by rw [h2];simp [pS],fun y a=>?_,?_⟩
   ·rcases List.mem_cons.1 a with rfl | a
    ·exact ⟨c.2,d⟩
    ·exact ⟨(b y a).1,(xB (b y a).2).1⟩
   ·simp only [List.map_cons,List.nodup_cons]
    refine ⟨fun N=>?_,f⟩
    obtain ⟨y,a,e⟩:=List.mem_map.1 N
    have:=(xB (b y a).2).2
    rw [lget_single] at this
    exact this e
  ·have:=(z6z h).1;cases this
theorem q7u:yO sNo=false:=by decide
def inpP (l:List Named):List (Bs×Val):=l.foldl (fun m x=>nW m x.name x.value) []
end Go.Sw
